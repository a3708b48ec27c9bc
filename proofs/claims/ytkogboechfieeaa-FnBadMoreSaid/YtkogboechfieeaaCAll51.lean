/- Walks of functions that laws of this seat reach, in the form of the print. -/
import Derived.Test.YtkogboechfieeaaCAll0
import Derived.Test.YtkogboechfieeaaCAll1
import Derived.Test.YtkogboechfieeaaCAll18
import Derived.Test.YtkogboechfieeaaCAll43
import Derived.Test.YtkogboechfieeaaCAll6
import Derived.Test.YtkogboechfieeaaCAll71
import Derived.Test.YtkogboechfieeaaCAll75
import Derived.Test.YtkogboechfieeaaCAll76
import Derived.Test.YtkogboechfieeaaZ
-- PRINTED
namespace Go.Proofs.Ytkogboechfieeaa.PAll
open Go.RowKit Go.Proofs.YtkogboechfieeaaW.PrintWords Go.Proofs.YtkogboechfieeaaW.PrintLast Go.Proofs.YtkogboechfieeaaW.PrintMore
attribute [local go_sem] max2_int min2_int max_two min_two max_three min_three max_four min_four
set_option linter.unusedVariables false
set_option linter.unusedSimpArgs false

/-! ### laws_FnBadMore: function 4 -/
mutual
def laws_FnBadMore.j0 : Nat → List Int → List Int → Bool → Int → List Int → List (List (S37)) → Option (Bool)
 | 0, _, _, _, _, _, _ => none
 | k + 1, x4, x5, x28, x602000, x602001, x602002 => if x28 = true then ((laws_alive.f).bind fun t603 => (some t603)) else ((some (([] : List Int) : List Int)).bind fun y604 => (if y604.length + x5.length < 17592186044416 then ((some (y604 ++ x5 : List Int)).bind fun y607 => (if y607.length < 17592186044416 then ((impl_BreakersOf.f k x602000 x602001 x602002 x4 x5).bind fun t613 => (laws_FnBadMore.l0 k x4 x5 (y607 ++ [0]) t613 0 x602000 x602001 x602002)) else (none))) else (none)))
def laws_FnBadMore.l0 : Nat → List Int → List Int → List Int → List Int → Int → Int → List Int → List (List (S37)) → Option (Bool)
 | 0, _, _, _, _, _, _, _, _ => none
 | k + 1, x4, x5, x6, x7, x8, x602000, x602001, x602002 => if x8 < (x7.length : Int) then (if 0 ≤ x8 then ((impl_SafeFor.f k x602000 x602001 x602002 x4 x6 (rd x7 x8)).bind fun t617 => (if t617 = true then (some false) else (laws_FnBadMore.l0 k x4 x5 x6 x7 (wrap64 (x8 + 1)) x602000 x602001 x602002))) else (none)) else ((impl_GuardsOf.f k x602000 x602001 x602002 x4 x6).bind fun t618 => (laws_FnBadMore.l1 k x4 x5 t618 0 x602000 x602001 x602002))
def laws_FnBadMore.l1 : Nat → List Int → List Int → List Int → Int → Int → List Int → List (List (S37)) → Option (Bool)
 | 0, _, _, _, _, _, _, _ => none
 | k + 1, x4, x5, x9, x10, x602000, x602001, x602002 => if x10 < (x9.length : Int) then (if 0 ≤ x10 then ((impl_LackOf.f x602000 (rd x9 x10)).bind fun t623 => ((impl_SafeFor.f k x602000 x602001 x602002 x4 x5 t623).bind fun t624 => (if t624 = true then (laws_FnBadMore.l1 k x4 x5 x9 (wrap64 (x10 + 1)) x602000 x602001 x602002) else (some false)))) else (none)) else ((laws_alive.f).bind fun t621 => (some t621))
end
def laws_FnBadMore.f (k : Nat) (l0 : List Int) : Option (Bool) := if (l0.length : Int) > 1048576 then (some true) else ((spec_DrawBreakersOf.f k l0).bind fun bt588 => ((spec_StateOk.f k bt588.1 bt588.2.1 bt588.2.2.1 bt588.2.2.2.1).bind fun t602 => (if t602 = true then (laws_FnBadMore.j0 k bt588.2.2.2.1 bt588.2.2.2.2 (decide ((bt588.2.2.2.2.length : Int) ≥ 27)) bt588.1 bt588.2.1 bt588.2.2.1) else (laws_FnBadMore.j0 k bt588.2.2.2.1 bt588.2.2.2.2 true bt588.1 bt588.2.1 bt588.2.2.1))))
def laws_FnBadMore.T11 : Bool × List (List Nat × List Nat) := (true, [([], []), ([], []), ([], []), ([], []), ([], []), ([3, 4], [3, 4]), ([5], [5]), ([0, 1, 2, 6], [0, 1, 2, 6])])
def laws_FnBadMore.B11 : List Nat := [0, 0, 0, 0, 0, 24, 56, 127]
theorem laws_FnBadMore.tab11 : rtab .any (opsOf Try.f4 11) = laws_FnBadMore.T11 := by kernel_rfl
theorem laws_FnBadMore.bits11 : waitsOk laws_FnBadMore.T11.2 laws_FnBadMore.B11 = true := by kernel_rfl
def laws_FnBadMore.T17 : Bool × List (List Nat × List Nat) := (true, [([], []), ([], []), ([], []), ([], []), ([3], [3]), ([4], [4]), ([], []), ([], []), ([6, 7], [6, 7]), ([8], [8]), ([5, 9], [5, 9]), ([0, 1, 2, 10, 10], [0, 1, 2, 10]), ([11], [11])])
def laws_FnBadMore.B17 : List Nat := [0, 0, 0, 0, 8, 24, 0, 0, 192, 448, 1016, 2047, 4095]
theorem laws_FnBadMore.tab17 : rtab .any (opsOf Try.f4 17) = laws_FnBadMore.T17 := by kernel_rfl
theorem laws_FnBadMore.bits17 : waitsOk laws_FnBadMore.T17.2 laws_FnBadMore.B17 = true := by kernel_rfl
set_option maxHeartbeats 8000000 in
set_option maxRecDepth 100000 in
theorem laws_FnBadMore.calls (k : Nat) (A0 : Option Addr) (c0 : Nat) (l0 : List Int) (r : Bool) (w : World) (hr0 : Kd.C (Kd.int .u8) w A0 l0.length l0) (hc0 : l0.length ≤ c0) (h : laws_FnBadMore.f k l0 = some r) :
  Calls Try.prog 4 #[.slice A0 l0.length c0] w fun e w' => e = .returned (.bool r) ∧ Below w.heap.size w w' := by
 have hu28 := Try.underlying28
 have HR0 := Z.k hr0
 have HC0 := Z.k hc0
 clear hr0 hc0
 have HB := Z.k (Below.refl w.heap.size w)
 have H := h
 clear h
 unfold laws_FnBadMore.f at H
 by_cases c2 : (l0.length : Int) > 1048576
 ·rw [if_pos c2] at H
  have c2b0 : decide (1048576 < (l0.length : Int)) = true := decide_eq_true c2
  have c2b1 : decide (1048576 < l0.length) = true := decide_eq_true (by omega)
  clear c2
  obtain rfl := Option.some.inj H
  go_enter Try.func4, Try.ntmps4
  go_wp2
  go_ret
  exact ⟨by first | rfl | (simp [errW_none, errW_some] <;> rfl) | (simp [*, errW_none, errW_some] <;> rfl), Z.bl HB.out⟩
 ·rw [if_neg c2] at H
  have c2b0 : decide (1048576 < (l0.length : Int)) = false := decide_eq_false c2
  have c2b1 : decide (1048576 < l0.length) = false := decide_eq_false (by omega)
  clear c2
  replace H := Option.bind_eq_some_iff.mp H
  obtain ⟨⟨t588, t589, t592, t595, t598⟩, A30, H⟩ := H
  try dsimp only at H
  have A3 := Z.k A30
  clear A30
  have HC4 := Z.k H
  clear H
  go_enter Try.func4, Try.ntmps4
  go_upto_region 4 with (first | ((with_reducible refine gate_callee (f := 20) rfl ?_); refine goesL_ (some 16) rfl rfl Try.func20 (by kernel_rfl) rfl #[.slice A0 l0.length c0] rfl Z.ar ?_; (with_reducible refine (spec_DrawBreakersOf.calls k _ _ l0 t588 t589 t592 t595 t598 _ ?q1 ?q2 A3.out).mono ?_); (case q1 => repeat (first | exact HR0.out | (with_reducible refine Kd.C_alloc ?_ _) | (with_reducible refine Kd.C_drewN ?_ _) | (with_reducible refine Kd.C_drew ?_))); (case q2 => exact HC0.out); rintro e w5 ⟨v590, v593, v596, v599, rfl, ho0, ho1, ho2, ho3, hb⟩; refine ⟨_, rfl, ?_⟩; have HO591 := Z.k (Kd.R_lower ho0 (below_size (Z.bl HB.out))); have HO594 := Z.k (Kd.R_lower ho1 (below_size (Z.bl HB.out))); have HO597 := Z.k (Kd.R_lower ho2 (below_size (Z.bl HB.out))); have HO600 := Z.k (Kd.R_lower ho3 (below_size (Z.bl HB.out))); replace HB := Z.st (Z.bl HB.out) hb; (try clear hb); (try clear hb2); (try clear hk); (try clear hi); (try clear ho0); (try clear ho1); (try clear ho2); (try clear ho3)) | ((with_reducible refine gate_dst (N := 3) rfl ?_); (try (refine gate_guard (by rfl) ?_; dsimp only)); refine Z.bx #[.int .i64 0, .slice none 0 0, .slice none 0 0] 28 HB ?_; clear HB; intro gb601 w6 BK601 GE601 HB hg hb; have GW601 := GE601; replace HO591 := Z.k (Kd.R_below (by (with_reducible repeat (first | apply Kd.R_alloc | apply Kd.R_drewN | apply Kd.R_drew)); exact HO591.out) hb); replace HO594 := Z.k (Kd.R_below (by (with_reducible repeat (first | apply Kd.R_alloc | apply Kd.R_drewN | apply Kd.R_drew)); exact HO594.out) hb); replace HO597 := Z.k (Kd.R_below (by (with_reducible repeat (first | apply Kd.R_alloc | apply Kd.R_drewN | apply Kd.R_drew)); exact HO597.out) hb); replace HO600 := Z.k (Kd.R_below (by (with_reducible repeat (first | apply Kd.R_alloc | apply Kd.R_drewN | apply Kd.R_drew)); exact HO600.out) hb); clear hb hg; have hcz7 := Z.c3 BK601.out; obtain ⟨Ao8, co8, eo8⟩ := Kd.R_slice HO591.out; subst eo8; obtain ⟨Ao9, co9, eo9⟩ := Kd.R_slice HO594.out; subst eo9))
  (try simp only [Act.put, List.setIfInBounds_toArray, List.set_cons_zero, List.set_cons_succ])
  go_cut [28] (fun v28 wc => ∃ (kq : Nat) (x28_3 : Bool), v28 = .bool x28_3 ∧ Aside0 (laws_FnBadMore.j0 kq t595 t598 x28_3 t588 t589 t592 = some r) ∧ Aside0 (kq ≤ k) ∧ Aside0 (Kd.R (Kd.int .i64) 3 wc w.heap.size (fun k_ => some k_ ≠ (v599 : Value).ownBlock ∧ some k_ ≠ ((.slice Ao8 t589.length co8) : Value).ownBlock) v596 t595) ∧ Aside0 (Kd.R (Kd.int .i64) 3 wc w.heap.size (fun k_ => some k_ ≠ (v596 : Value).ownBlock ∧ some k_ ≠ ((.slice Ao8 t589.length co8) : Value).ownBlock) v599 t598) ∧ Aside0 (Kd.R (Kd.int .i64) 3 wc w.heap.size (fun k_ => some k_ ≠ (v596 : Value).ownBlock ∧ some k_ ≠ (v599 : Value).ownBlock) (.slice Ao8 t589.length co8) t589) ∧ Aside0 (Kd.R (Kd.slice 37 k37) 34 wc w.heap.size (fun _ => True) (.slice Ao9 t592.length co9) t592) ∧ Aside0 (wc.heap[gb601]? = some (.cells #[.int .i64 t588, (.slice Ao8 t589.length co8), (.slice Ao9 t592.length co9)] 28 (0, 0))) ∧ Aside0 (Below w.heap.size w wc))
  case first =>
   have H := HC4.out
   clear HC4
   replace H := Option.bind_eq_some_iff.mp H
   obtain ⟨t602, A100, H⟩ := H
   try dsimp only at H
   have A10 := Z.k A100
   clear A100
   by_cases c11 : t602 = true
   ·subst c11
    rw [if_pos rfl] at H
    have H' := Z.k H
    clear H
    have hcz12 := Z.c3 BK601.out
    obtain ⟨Ao13, co13, eo13⟩ := Kd.R_slice HO597.out
    subst eo13
    go_wp2_with (first | ((with_reducible refine gate_callee (f := 16) rfl ?_); refine goesL_ (some 22) rfl rfl Try.func16 (by kernel_rfl) rfl #[.agg #[.int .i64 t588, .slice Ao8 t589.length co8, .slice Ao9 t592.length co9], .slice Ao13 t595.length co13] rfl Z.ar ?_; (with_reducible refine (spec_StateOk.calls k t588 _ _ t589 _ _ t592 _ _ t595 true _ ?q1 ?q2 ?q3 ?q4 ?q5 ?q6 A10.out).mono ?_); (case q1 => refine (Kd.R_reads' (e := 3) (base := w.heap.size) (ok := fun k_ => (some k_ ≠ (.slice Ao13 t595.length co13 : Value).ownBlock ∧ some k_ ≠ (v599 : Value).ownBlock)) (n := t589.length) (c := co8) ?_).2.2; exact (by (with_reducible repeat (first | apply Kd.R_alloc | apply Kd.R_drewN | apply Kd.R_drew)); exact (Kd.R_mono (Kd.R_far (p := ⟨gb601, 2, none⟩) (Kd.R_far (p := ⟨gb601, 1, none⟩) (Kd.R_far (p := ⟨gb601, 0, none⟩) (Kd.R_types HO591.out BK601.out (by decide)) (fun _ hk => hk.2) (.int .i64 t588)) (fun _ hk => hk.2) (.slice Ao8 t589.length co8)) (fun _ hk => hk.2) (.slice Ao9 t592.length co9)) (fun _ h_ => h_.1)))); (case q2 => exact (Kd.R_reads' HO591.out).2.1); (case q3 => refine (Kd.R_reads' (e := 34) (base := w.heap.size) (ok := fun k_ => True) (n := t592.length) (c := co9) ?_).2.2; exact (by (with_reducible repeat (first | apply Kd.R_alloc | apply Kd.R_drewN | apply Kd.R_drew)); exact (Kd.R_mono (Kd.R_far (p := ⟨gb601, 2, none⟩) (Kd.R_far (p := ⟨gb601, 1, none⟩) (Kd.R_far (p := ⟨gb601, 0, none⟩) (Kd.R_types HO594.out BK601.out (by decide)) (fun _ hk => hk.2) (.int .i64 t588)) (fun _ hk => hk.2) (.slice Ao8 t589.length co8)) (fun _ hk => hk.2) (.slice Ao9 t592.length co9)) (fun _ h_ => h_.1)))); (case q4 => exact (Kd.R_reads' HO594.out).2.1); (case q5 => refine (Kd.R_reads' (e := 3) (base := w.heap.size) (ok := fun k_ => (some k_ ≠ (.slice Ao8 t589.length co8 : Value).ownBlock ∧ some k_ ≠ (v599 : Value).ownBlock)) (n := t595.length) (c := co13) ?_).2.2; exact (by (with_reducible repeat (first | apply Kd.R_alloc | apply Kd.R_drewN | apply Kd.R_drew)); exact (Kd.R_mono (Kd.R_far (p := ⟨gb601, 2, none⟩) (Kd.R_far (p := ⟨gb601, 1, none⟩) (Kd.R_far (p := ⟨gb601, 0, none⟩) (Kd.R_types HO597.out BK601.out (by decide)) (fun _ hk => hk.2) (.int .i64 t588)) (fun _ hk => hk.2) (.slice Ao8 t589.length co8)) (fun _ hk => hk.2) (.slice Ao9 t592.length co9)) (fun _ h_ => h_.1)))); (case q6 => exact (Kd.R_reads' HO597.out).2.1); rintro e w14 ⟨rfl, hb⟩; refine ⟨_, rfl, ?_⟩; replace HO591 := Z.k (Kd.R_below (by (with_reducible repeat (first | apply Kd.R_alloc | apply Kd.R_drewN | apply Kd.R_drew)); exact (Kd.R_mono (Kd.R_far (p := ⟨gb601, 2, none⟩) (Kd.R_far (p := ⟨gb601, 1, none⟩) (Kd.R_far (p := ⟨gb601, 0, none⟩) (Kd.R_types HO591.out BK601.out (by decide)) (fun _ hk => hk.2) (.int .i64 t588)) (fun _ hk => hk.2) (.slice Ao8 t589.length co8)) (fun _ hk => hk.2) (.slice Ao9 t592.length co9)) (fun _ h_ => h_.1))) hb); replace HO594 := Z.k (Kd.R_below (by (with_reducible repeat (first | apply Kd.R_alloc | apply Kd.R_drewN | apply Kd.R_drew)); exact (Kd.R_mono (Kd.R_far (p := ⟨gb601, 2, none⟩) (Kd.R_far (p := ⟨gb601, 1, none⟩) (Kd.R_far (p := ⟨gb601, 0, none⟩) (Kd.R_types HO594.out BK601.out (by decide)) (fun _ hk => hk.2) (.int .i64 t588)) (fun _ hk => hk.2) (.slice Ao8 t589.length co8)) (fun _ hk => hk.2) (.slice Ao9 t592.length co9)) (fun _ h_ => h_.1))) hb); replace HO597 := Z.k (Kd.R_below (by (with_reducible repeat (first | apply Kd.R_alloc | apply Kd.R_drewN | apply Kd.R_drew)); exact (Kd.R_mono (Kd.R_far (p := ⟨gb601, 2, none⟩) (Kd.R_far (p := ⟨gb601, 1, none⟩) (Kd.R_far (p := ⟨gb601, 0, none⟩) (Kd.R_types HO597.out BK601.out (by decide)) (fun _ hk => hk.2) (.int .i64 t588)) (fun _ hk => hk.2) (.slice Ao8 t589.length co8)) (fun _ hk => hk.2) (.slice Ao9 t592.length co9)) (fun _ h_ => h_.1))) hb); replace HO600 := Z.k (Kd.R_below (by (with_reducible repeat (first | apply Kd.R_alloc | apply Kd.R_drewN | apply Kd.R_drew)); exact (Kd.R_mono (Kd.R_far (p := ⟨gb601, 2, none⟩) (Kd.R_far (p := ⟨gb601, 1, none⟩) (Kd.R_far (p := ⟨gb601, 0, none⟩) (Kd.R_types HO600.out BK601.out (by decide)) (fun _ hk => hk.2) (.int .i64 t588)) (fun _ hk => hk.2) (.slice Ao8 t589.length co8)) (fun _ hk => hk.2) (.slice Ao9 t592.length co9)) (fun _ h_ => h_.1))) hb); replace BK601 := Z.k (blk_below (g := gb601) (o := .cells #[.int .i64 t588, .slice Ao8 t589.length co8, .slice Ao9 t592.length co9] 28 (0, 0)) (by (with_reducible repeat (first | refine blk_drewN ?_ _ | refine blk_drew ?_ | refine blk_alloc ?_ _)); refine blk_put (cs := #[.int .i64 t588, .slice Ao8 t589.length co8, .slice none 0 0]) ?_ 2 _ rfl; (with_reducible repeat (first | refine blk_drewN ?_ _ | refine blk_drew ?_ | refine blk_alloc ?_ _)); refine blk_put (cs := #[.int .i64 t588, .slice none 0 0, .slice none 0 0]) ?_ 1 _ rfl; (with_reducible repeat (first | refine blk_drewN ?_ _ | refine blk_drew ?_ | refine blk_alloc ?_ _)); refine blk_put (cs := #[.int .i64 0, .slice none 0 0, .slice none 0 0]) ?_ 0 _ rfl; (with_reducible repeat (first | refine blk_drewN ?_ _ | refine blk_drew ?_ | refine blk_alloc ?_ _)); exact BK601.out) hb); replace HB := Z.st (Z.bs HB.out GE601.out) hb; (try clear hb); (try clear hb2); (try clear hk); (try clear hi); obtain ⟨Ao15, co15, eo15⟩ := Kd.R_slice HO600.out; subst eo15))
    go_meet
    case rel => exact ⟨_, (decide ((t598.length : Int) ≥ 27)), (by first | rfl | (simp; done) | (simp [*]; done)), H', ⟨by first | omega | exact Nat.le_refl _⟩, ⟨by (with_reducible repeat (first | apply Kd.R_alloc | apply Kd.R_drewN | apply Kd.R_drew)); exact Kd.R_mono HO597.out (fun _ hk => ⟨hk.2, hk.1⟩)⟩, ⟨by (with_reducible repeat (first | apply Kd.R_alloc | apply Kd.R_drewN | apply Kd.R_drew)); exact Kd.R_mono HO600.out (fun _ hk => ⟨hk.2, hk.1⟩)⟩, ⟨by (with_reducible repeat (first | apply Kd.R_alloc | apply Kd.R_drewN | apply Kd.R_drew)); exact HO591.out⟩, ⟨by (with_reducible repeat (first | apply Kd.R_alloc | apply Kd.R_drewN | apply Kd.R_drew)); exact HO594.out⟩, ⟨by (with_reducible repeat (first | refine blk_drewN ?_ _ | refine blk_drew ?_ | refine blk_alloc ?_ _)); exact BK601.out⟩, ⟨Z.bs HB.out GE601.out⟩⟩
   ·replace c11 := Bool.eq_false_iff.mpr c11
    subst c11
    rw [if_neg (show ¬ (false = true) by decide)] at H
    have H' := Z.k H
    clear H
    have hcz16 := Z.c3 BK601.out
    obtain ⟨Ao17, co17, eo17⟩ := Kd.R_slice HO597.out
    subst eo17
    go_wp2_with (first | ((with_reducible refine gate_callee (f := 16) rfl ?_); refine goesL_ (some 22) rfl rfl Try.func16 (by kernel_rfl) rfl #[.agg #[.int .i64 t588, .slice Ao8 t589.length co8, .slice Ao9 t592.length co9], .slice Ao17 t595.length co17] rfl Z.ar ?_; (with_reducible refine (spec_StateOk.calls k t588 _ _ t589 _ _ t592 _ _ t595 false _ ?q1 ?q2 ?q3 ?q4 ?q5 ?q6 A10.out).mono ?_); (case q1 => refine (Kd.R_reads' (e := 3) (base := w.heap.size) (ok := fun k_ => (some k_ ≠ (.slice Ao17 t595.length co17 : Value).ownBlock ∧ some k_ ≠ (v599 : Value).ownBlock)) (n := t589.length) (c := co8) ?_).2.2; exact (by (with_reducible repeat (first | apply Kd.R_alloc | apply Kd.R_drewN | apply Kd.R_drew)); exact (Kd.R_mono (Kd.R_far (p := ⟨gb601, 2, none⟩) (Kd.R_far (p := ⟨gb601, 1, none⟩) (Kd.R_far (p := ⟨gb601, 0, none⟩) (Kd.R_types HO591.out BK601.out (by decide)) (fun _ hk => hk.2) (.int .i64 t588)) (fun _ hk => hk.2) (.slice Ao8 t589.length co8)) (fun _ hk => hk.2) (.slice Ao9 t592.length co9)) (fun _ h_ => h_.1)))); (case q2 => exact (Kd.R_reads' HO591.out).2.1); (case q3 => refine (Kd.R_reads' (e := 34) (base := w.heap.size) (ok := fun k_ => True) (n := t592.length) (c := co9) ?_).2.2; exact (by (with_reducible repeat (first | apply Kd.R_alloc | apply Kd.R_drewN | apply Kd.R_drew)); exact (Kd.R_mono (Kd.R_far (p := ⟨gb601, 2, none⟩) (Kd.R_far (p := ⟨gb601, 1, none⟩) (Kd.R_far (p := ⟨gb601, 0, none⟩) (Kd.R_types HO594.out BK601.out (by decide)) (fun _ hk => hk.2) (.int .i64 t588)) (fun _ hk => hk.2) (.slice Ao8 t589.length co8)) (fun _ hk => hk.2) (.slice Ao9 t592.length co9)) (fun _ h_ => h_.1)))); (case q4 => exact (Kd.R_reads' HO594.out).2.1); (case q5 => refine (Kd.R_reads' (e := 3) (base := w.heap.size) (ok := fun k_ => (some k_ ≠ (.slice Ao8 t589.length co8 : Value).ownBlock ∧ some k_ ≠ (v599 : Value).ownBlock)) (n := t595.length) (c := co17) ?_).2.2; exact (by (with_reducible repeat (first | apply Kd.R_alloc | apply Kd.R_drewN | apply Kd.R_drew)); exact (Kd.R_mono (Kd.R_far (p := ⟨gb601, 2, none⟩) (Kd.R_far (p := ⟨gb601, 1, none⟩) (Kd.R_far (p := ⟨gb601, 0, none⟩) (Kd.R_types HO597.out BK601.out (by decide)) (fun _ hk => hk.2) (.int .i64 t588)) (fun _ hk => hk.2) (.slice Ao8 t589.length co8)) (fun _ hk => hk.2) (.slice Ao9 t592.length co9)) (fun _ h_ => h_.1)))); (case q6 => exact (Kd.R_reads' HO597.out).2.1); rintro e w18 ⟨rfl, hb⟩; refine ⟨_, rfl, ?_⟩; replace HO591 := Z.k (Kd.R_below (by (with_reducible repeat (first | apply Kd.R_alloc | apply Kd.R_drewN | apply Kd.R_drew)); exact (Kd.R_mono (Kd.R_far (p := ⟨gb601, 2, none⟩) (Kd.R_far (p := ⟨gb601, 1, none⟩) (Kd.R_far (p := ⟨gb601, 0, none⟩) (Kd.R_types HO591.out BK601.out (by decide)) (fun _ hk => hk.2) (.int .i64 t588)) (fun _ hk => hk.2) (.slice Ao8 t589.length co8)) (fun _ hk => hk.2) (.slice Ao9 t592.length co9)) (fun _ h_ => h_.1))) hb); replace HO594 := Z.k (Kd.R_below (by (with_reducible repeat (first | apply Kd.R_alloc | apply Kd.R_drewN | apply Kd.R_drew)); exact (Kd.R_mono (Kd.R_far (p := ⟨gb601, 2, none⟩) (Kd.R_far (p := ⟨gb601, 1, none⟩) (Kd.R_far (p := ⟨gb601, 0, none⟩) (Kd.R_types HO594.out BK601.out (by decide)) (fun _ hk => hk.2) (.int .i64 t588)) (fun _ hk => hk.2) (.slice Ao8 t589.length co8)) (fun _ hk => hk.2) (.slice Ao9 t592.length co9)) (fun _ h_ => h_.1))) hb); replace HO597 := Z.k (Kd.R_below (by (with_reducible repeat (first | apply Kd.R_alloc | apply Kd.R_drewN | apply Kd.R_drew)); exact (Kd.R_mono (Kd.R_far (p := ⟨gb601, 2, none⟩) (Kd.R_far (p := ⟨gb601, 1, none⟩) (Kd.R_far (p := ⟨gb601, 0, none⟩) (Kd.R_types HO597.out BK601.out (by decide)) (fun _ hk => hk.2) (.int .i64 t588)) (fun _ hk => hk.2) (.slice Ao8 t589.length co8)) (fun _ hk => hk.2) (.slice Ao9 t592.length co9)) (fun _ h_ => h_.1))) hb); replace HO600 := Z.k (Kd.R_below (by (with_reducible repeat (first | apply Kd.R_alloc | apply Kd.R_drewN | apply Kd.R_drew)); exact (Kd.R_mono (Kd.R_far (p := ⟨gb601, 2, none⟩) (Kd.R_far (p := ⟨gb601, 1, none⟩) (Kd.R_far (p := ⟨gb601, 0, none⟩) (Kd.R_types HO600.out BK601.out (by decide)) (fun _ hk => hk.2) (.int .i64 t588)) (fun _ hk => hk.2) (.slice Ao8 t589.length co8)) (fun _ hk => hk.2) (.slice Ao9 t592.length co9)) (fun _ h_ => h_.1))) hb); replace BK601 := Z.k (blk_below (g := gb601) (o := .cells #[.int .i64 t588, .slice Ao8 t589.length co8, .slice Ao9 t592.length co9] 28 (0, 0)) (by (with_reducible repeat (first | refine blk_drewN ?_ _ | refine blk_drew ?_ | refine blk_alloc ?_ _)); refine blk_put (cs := #[.int .i64 t588, .slice Ao8 t589.length co8, .slice none 0 0]) ?_ 2 _ rfl; (with_reducible repeat (first | refine blk_drewN ?_ _ | refine blk_drew ?_ | refine blk_alloc ?_ _)); refine blk_put (cs := #[.int .i64 t588, .slice none 0 0, .slice none 0 0]) ?_ 1 _ rfl; (with_reducible repeat (first | refine blk_drewN ?_ _ | refine blk_drew ?_ | refine blk_alloc ?_ _)); refine blk_put (cs := #[.int .i64 0, .slice none 0 0, .slice none 0 0]) ?_ 0 _ rfl; (with_reducible repeat (first | refine blk_drewN ?_ _ | refine blk_drew ?_ | refine blk_alloc ?_ _)); exact BK601.out) hb); replace HB := Z.st (Z.bs HB.out GE601.out) hb; (try clear hb); (try clear hb2); (try clear hk); (try clear hi)))
    go_meet
    case rel => exact ⟨_, (true), (by first | rfl | (simp; done) | (simp [*]; done)), H', ⟨by first | omega | exact Nat.le_refl _⟩, ⟨by (with_reducible repeat (first | apply Kd.R_alloc | apply Kd.R_drewN | apply Kd.R_drew)); exact Kd.R_mono HO597.out (fun _ hk => ⟨hk.2, hk.1⟩)⟩, ⟨by (with_reducible repeat (first | apply Kd.R_alloc | apply Kd.R_drewN | apply Kd.R_drew)); exact Kd.R_mono HO600.out (fun _ hk => ⟨hk.2, hk.1⟩)⟩, ⟨by (with_reducible repeat (first | apply Kd.R_alloc | apply Kd.R_drewN | apply Kd.R_drew)); exact HO591.out⟩, ⟨by (with_reducible repeat (first | apply Kd.R_alloc | apply Kd.R_drewN | apply Kd.R_drew)); exact HO594.out⟩, ⟨by (with_reducible repeat (first | refine blk_drewN ?_ _ | refine blk_drew ?_ | refine blk_alloc ?_ _)); exact BK601.out⟩, ⟨Z.bs HB.out GE601.out⟩⟩
  case rest =>
   clear HC4
   try clear c1
   try clear c2
   try clear c2b0
   try clear c2b1
   try clear p2
   try clear c4
   try clear c11
   try clear c16
   try clear hcz12_0
   try clear hcz12_1
   try clear hcz12_2
   try clear hcz16_0
   try clear hcz16_1
   try clear hcz16_2
   try clear hcz7_0
   try clear hcz7_1
   try clear hcz7_2
   try clear hfz12_0
   try clear hfz12_1
   try clear hfz12_2
   try clear hfz16_0
   try clear hfz16_1
   try clear hfz16_2
   try clear hfz7_0
   try clear hfz7_1
   try clear hfz7_2
   obtain ⟨kq, x28_3, rfl, HA, HJ3, HO_4, HO_5, HO_602001, HO_602002, BK601, HB⟩ := hcut
   cases kq with
   | zero => exact absurd HA.out (by simp [laws_FnBadMore.j0])
   | succ kj3 =>
    have H := HA.out
    clear HA
    simp only [laws_FnBadMore.j0] at H
    by_cases c19 : x28_3 = true
    ·subst c19
     rw [if_pos rfl] at H
     replace H := Option.bind_eq_some_iff.mp H
     obtain ⟨t603, A200, H⟩ := H
     try dsimp only at H
     have A20 := Z.k A200
     clear A200
     obtain rfl := Option.some.inj H
     go_wp2_with (first | ((with_reducible refine gate_callee (f := 18) rfl ?_); refine goesL_ (some 29) rfl rfl Try.func18 (by kernel_rfl) rfl #[] rfl Z.ar ?_; (with_reducible refine (laws_alive.calls  t603 _ A20.out).mono ?_); rintro e w' ⟨rfl, ⟨nd, rfl⟩⟩; refine ⟨_, rfl, ?_⟩))
     go_ret
     exact ⟨by first | rfl | (simp [errW_none, errW_some] <;> rfl) | (simp [*, errW_none, errW_some] <;> rfl), Z.bs HB.out GE601.out⟩
    ·replace c19 := Bool.eq_false_iff.mpr c19
     subst c19
     rw [if_neg (show ¬ (false = true) by decide)] at H
     obtain ⟨y604, hy604⟩ : ∃ y_ : List Int, y_ = (([] : List Int)) := ⟨_, rfl⟩
     replace H : (if y604.length + t598.length < 17592186044416 then ((some (y604 ++ t598 : List Int)).bind fun y607 => (if y607.length < 17592186044416 then ((impl_BreakersOf.f kj3 t588 t589 t592 t595 t598).bind fun t613 => (laws_FnBadMore.l0 kj3 t595 t598 (y607 ++ [0]) t613 0 t588 t589 t592)) else (none))) else (none)) = some r := by first | (rw [hy604]; with_reducible exact H) | (have H2_ := (Option.bind_some _ _).symm.trans H; rw [hy604]; with_reducible exact H2_) | (have H2_ := (Option.bind_some _ _).symm.trans H; with_reducible exact H2_) | with_reducible exact H | (rw [hy604]; exact H) | exact H
     have Ny604 := Z.k hy604
     clear hy604
     obtain ⟨c21, H⟩ := Z.ifp H
     have LMc21 := Z.k c21
     clear c21
     obtain ⟨y607, hy607⟩ : ∃ y_ : List Int, y_ = (y604 ++ t598) := ⟨_, rfl⟩
     replace H : (if y607.length < 17592186044416 then ((impl_BreakersOf.f kj3 t588 t589 t592 t595 t598).bind fun t613 => (laws_FnBadMore.l0 kj3 t595 t598 (y607 ++ [0]) t613 0 t588 t589 t592)) else (none)) = some r := by first | (rw [hy607]; with_reducible exact H) | (have H2_ := (Option.bind_some _ _).symm.trans H; rw [hy607]; with_reducible exact H2_) | (have H2_ := (Option.bind_some _ _).symm.trans H; with_reducible exact H2_) | with_reducible exact H | (rw [hy607]; exact H) | exact H
     have Ny607 := Z.k hy607
     clear hy607
     obtain ⟨c22, H⟩ := Z.ifp H
     have LMc22 := Z.k c22
     clear c22
     obtain ⟨y610, hy610⟩ : ∃ y_ : List Int, y_ = (y607 ++ [0]) := ⟨_, rfl⟩
     replace H : ((impl_BreakersOf.f kj3 t588 t589 t592 t595 t598).bind fun t613 => (laws_FnBadMore.l0 kj3 t595 t598 y610 t613 0 t588 t589 t592)) = some r := by first | (rw [hy610]; with_reducible exact H) | (have H2_ := (Option.bind_some _ _).symm.trans H; rw [hy610]; with_reducible exact H2_) | (have H2_ := (Option.bind_some _ _).symm.trans H; with_reducible exact H2_) | with_reducible exact H | (rw [hy610]; exact H) | exact H
     have Ny610 := Z.k hy610
     clear hy610
     replace H := Option.bind_eq_some_iff.mp H
     obtain ⟨t613, A230, H⟩ := H
     try dsimp only at H
     have A23 := Z.k A230
     clear A230
     have H' := Z.k H
     clear H
     go_wp2_with (first | ((with_reducible refine gate_dst (N := 30) rfl ?_); (try (refine gate_guard (by rfl) ?_; dsimp only)); refine Kd.R_lit (Kd.int .i64) _ 3 ?hg (N := 30) ?hd (xs := ([] : List Int)) (inner := []) (ok := fun _ => True) (okp := fun _ => True) ?hr ?hp (fun _ hk => hk) trivial (Below.refl _ _) (Nat.le_refl _) (by simp) ?_; (case hd | hg => rfl); (case hr => first | (go_simp; done) | (go_simp; rfl)); (case hp => exact (Reps.none _ _)); intro v605 w24 ho25 hb hg_ hnew_; clear hg_ hnew_; (first | rw [← Ny604.out] at ho25 | (simp only [Int.reduceToNat] at ho25; rw [← Ny604.out] at ho25)); replace HO_602002 := Z.k (Kd.R_below (by (with_reducible repeat (first | apply Kd.R_alloc | apply Kd.R_drewN | apply Kd.R_drew)); exact HO_602002.out) hb); have HO606 := Z.k (Kd.R_lower (Kd.R_new' (Kd.R_new' (Kd.R_new' ho25 (Kd.R_lt (by (with_reducible repeat (first | apply Kd.R_alloc | apply Kd.R_drewN | apply Kd.R_drew)); exact HO_4.out))) (Kd.R_lt (by (with_reducible repeat (first | apply Kd.R_alloc | apply Kd.R_drewN | apply Kd.R_drew)); exact HO_5.out))) (Kd.R_lt (by (with_reducible repeat (first | apply Kd.R_alloc | apply Kd.R_drewN | apply Kd.R_drew)); exact HO_602001.out))) (below_size (Z.bs HB.out GE601.out))); replace HO_4 := Z.k (Kd.R_elder' (by (with_reducible repeat (first | apply Kd.R_alloc | apply Kd.R_drewN | apply Kd.R_drew)); exact HO_4.out) (Kd.R_base ho25) hb); replace HO_5 := Z.k (Kd.R_elder' (by (with_reducible repeat (first | apply Kd.R_alloc | apply Kd.R_drewN | apply Kd.R_drew)); exact HO_5.out) (Kd.R_base ho25) hb); replace HO_602001 := Z.k (Kd.R_elder' (by (with_reducible repeat (first | apply Kd.R_alloc | apply Kd.R_drewN | apply Kd.R_drew)); exact HO_602001.out) (Kd.R_base ho25) hb); replace BK601 := Z.bb BK601 hb; replace HB := Z.st (Z.bs HB.out GE601.out) hb; clear hb ho25; obtain ⟨Ao27, co27, eo27⟩ := Kd.R_slice HO_5.out; subst eo27) | ((with_reducible refine gate_builtin (b := .append) (xs := #[.tmp 30, .tmp 31]) rfl ?_); (try (refine gate_guard (by rfl) ?_; dsimp only)); at_builtin; refine Kd.R_append_rows (Kd.int .i64) (w0 := w) w.heap.size rfl (.tmp 30) (.tmp 31) 23 3 (.int .i64 0) 8 rfl Try.underlying23 info3 rfl (by decide) (by omega) v605 y604 t598 _ _ _ (fun k_ => some k_ ≠ (v596 : Value).ownBlock ∧ some k_ ≠ (.slice Ao27 t598.length co27 : Value).ownBlock ∧ some k_ ≠ (.slice Ao8 t589.length co8 : Value).ownBlock) (fun _ => False) rfl rfl ?aO ?aR (fun _ _ h => h) (fun _ h => h.elim) ?aF ?aB ?aS ?aL ?_; (case aR => repeat (first | exact (Kd.R_reads' HO_5.out).2.2 | (with_reducible refine Kd.C_alloc ?_ _) | (with_reducible refine Kd.C_drewN ?_ _) | (with_reducible refine Kd.C_drew ?_))); (case aB => exact (Z.bs HB.out GE601.out)); (case aF => exact (fun k_ hk => ⟨Kd.fresh' (Kd.R_lt (by (with_reducible repeat (first | apply Kd.R_alloc | apply Kd.R_drewN | apply Kd.R_drew)); exact HO_4.out)) k_ hk, Kd.fresh' (Kd.R_lt (by (with_reducible repeat (first | apply Kd.R_alloc | apply Kd.R_drewN | apply Kd.R_drew)); exact HO_5.out)) k_ hk, Kd.fresh' (Kd.R_lt (by (with_reducible repeat (first | apply Kd.R_alloc | apply Kd.R_drewN | apply Kd.R_drew)); exact HO_602001.out)) k_ hk⟩)); (case aO => exact (by (with_reducible repeat (first | apply Kd.R_alloc | apply Kd.R_drewN | apply Kd.R_drew)); exact Kd.R_mono HO606.out (fun _ hk => ⟨hk.1.1.2, ⟨hk.1.2, hk.2⟩⟩))); (case aS => exact (below_size (Z.bs HB.out GE601.out))); (case aL => have := LMc21.out; omega); intro v608 w26 ho hb hg hat; rw [← Ny607.out] at ho; replace HO_4 := Z.k (Kd.R_after (ok := (fun k_ => some k_ ≠ (.slice Ao27 t598.length co27 : Value).ownBlock ∧ some k_ ≠ (.slice Ao8 t589.length co8 : Value).ownBlock)) (by (with_reducible repeat (first | apply Kd.R_alloc | apply Kd.R_drewN | apply Kd.R_drew)); exact HO_4.out) hg hat); replace HO_5 := Z.k (Kd.R_after (ok := (fun k_ => some k_ ≠ (v596 : Value).ownBlock ∧ some k_ ≠ (.slice Ao8 t589.length co8 : Value).ownBlock)) (by (with_reducible repeat (first | apply Kd.R_alloc | apply Kd.R_drewN | apply Kd.R_drew)); exact HO_5.out) hg hat); replace HO_602001 := Z.k (Kd.R_after (ok := (fun k_ => some k_ ≠ (v596 : Value).ownBlock ∧ some k_ ≠ (.slice Ao27 t598.length co27 : Value).ownBlock)) (by (with_reducible repeat (first | apply Kd.R_alloc | apply Kd.R_drewN | apply Kd.R_drew)); exact HO_602001.out) hg hat); replace HO_602002 := Z.k (Kd.R_over' (by (with_reducible repeat (first | apply Kd.R_alloc | apply Kd.R_drewN | apply Kd.R_drew)); exact HO_602002.out) (Kd.R_typed (by (with_reducible repeat (first | apply Kd.R_alloc | apply Kd.R_drewN | apply Kd.R_drew)); exact HO606.out)) (by decide) hg); replace BK601 := Z.k (blk_grown (g := gb601) (o := .cells #[.int .i64 t588, .slice Ao8 t589.length co8, .slice Ao9 t592.length co9] 28 (0, 0)) (Z.bk BK601.out) hg (Kd.R_ne HO606.out BK601.out (by decide))); replace HB := Z.k (hb); have HO609 := Z.k (ho); clear HO606; clear ho hb hg hat) | ((with_reducible refine gate_builtin (b := .append) (xs := #[.tmp 32, .tmp 33]) rfl ?_); (try (refine gate_guard (by rfl) ?_; dsimp only)); at_builtin; refine Kd.R_append (Kd.int .i64) (w0 := w) w.heap.size rfl (.tmp 32) (.tmp 33) 23 3 (.int .i64 0) 8 rfl Try.underlying23 info3 rfl (by decide) (by omega) v608 y607 0 [.int .i64 0] (fun k_ => some k_ ≠ (v596 : Value).ownBlock ∧ some k_ ≠ (.slice Ao27 t598.length co27 : Value).ownBlock ∧ some k_ ≠ (.slice Ao8 t589.length co8 : Value).ownBlock) (fun _ => False) rfl rfl ?aP (fun _ hk => hk.elim) ?aF ?aO ?aB ?aS ?aL ?_; (case aP => exact rfl); (case aB => exact (Z.bs HB.out GE601.out)); (case aF => exact (fun k_ hk => ⟨Kd.fresh' (Kd.R_lt (by (with_reducible repeat (first | apply Kd.R_alloc | apply Kd.R_drewN | apply Kd.R_drew)); exact HO_4.out)) k_ hk, Kd.fresh' (Kd.R_lt (by (with_reducible repeat (first | apply Kd.R_alloc | apply Kd.R_drewN | apply Kd.R_drew)); exact HO_5.out)) k_ hk, Kd.fresh' (Kd.R_lt (by (with_reducible repeat (first | apply Kd.R_alloc | apply Kd.R_drewN | apply Kd.R_drew)); exact HO_602001.out)) k_ hk⟩)); (case aO => exact (by (with_reducible repeat (first | apply Kd.R_alloc | apply Kd.R_drewN | apply Kd.R_drew)); exact HO609.out)); (case aS => exact (below_size (Z.bs HB.out GE601.out))); (case aL => have := LMc22.out; omega); intro v611 w28 ho hb hg hat; rw [← Ny610.out] at ho; replace HO_4 := Z.k (Kd.R_after (ok := (fun k_ => some k_ ≠ (.slice Ao27 t598.length co27 : Value).ownBlock ∧ some k_ ≠ (.slice Ao8 t589.length co8 : Value).ownBlock)) (by (with_reducible repeat (first | apply Kd.R_alloc | apply Kd.R_drewN | apply Kd.R_drew)); exact HO_4.out) hg hat); replace HO_5 := Z.k (Kd.R_after (ok := (fun k_ => some k_ ≠ (v596 : Value).ownBlock ∧ some k_ ≠ (.slice Ao8 t589.length co8 : Value).ownBlock)) (by (with_reducible repeat (first | apply Kd.R_alloc | apply Kd.R_drewN | apply Kd.R_drew)); exact HO_5.out) hg hat); replace HO_602001 := Z.k (Kd.R_after (ok := (fun k_ => some k_ ≠ (v596 : Value).ownBlock ∧ some k_ ≠ (.slice Ao27 t598.length co27 : Value).ownBlock)) (by (with_reducible repeat (first | apply Kd.R_alloc | apply Kd.R_drewN | apply Kd.R_drew)); exact HO_602001.out) hg hat); replace HO_602002 := Z.k (Kd.R_over' (by (with_reducible repeat (first | apply Kd.R_alloc | apply Kd.R_drewN | apply Kd.R_drew)); exact HO_602002.out) (Kd.R_typed (by (with_reducible repeat (first | apply Kd.R_alloc | apply Kd.R_drewN | apply Kd.R_drew)); exact HO609.out)) (by decide) hg); replace BK601 := Z.k (blk_grown (g := gb601) (o := .cells #[.int .i64 t588, .slice Ao8 t589.length co8, .slice Ao9 t592.length co9] 28 (0, 0)) (Z.bk BK601.out) hg (Kd.R_ne HO609.out BK601.out (by decide))); replace HB := Z.k (hb); have HO612 := Z.k (ho); clear HO609; clear ho hb hg hat; have hcz29 := Z.c3 BK601.out; obtain ⟨Ao30, co30, eo30⟩ := Kd.R_slice HO_4.out; subst eo30) | ((with_reducible refine gate_callee (f := 21) rfl ?_); refine goesL_ (some 38) rfl rfl Try.func21 (by kernel_rfl) rfl #[.agg #[.int .i64 t588, .slice Ao8 t589.length co8, .slice Ao9 t592.length co9], .slice Ao30 t595.length co30, .slice Ao27 t598.length co27] rfl Z.ar ?_; (with_reducible refine (impl_BreakersOf.calls kj3 t588 _ _ t589 _ _ t592 _ _ t595 _ _ t598 t613 _ ?q1 ?q2 ?q3 ?q4 ?q5 ?q6 ?q7 ?q8 A23.out).mono ?_); (case q1 => repeat (first | exact (Kd.R_reads' HO_602001.out).2.2 | (with_reducible refine Kd.C_alloc ?_ _) | (with_reducible refine Kd.C_drewN ?_ _) | (with_reducible refine Kd.C_drew ?_))); (case q2 => exact (Kd.R_reads' HO_602001.out).2.1); (case q3 => repeat (first | exact (Kd.R_reads' HO_602002.out).2.2 | (with_reducible refine Kd.C_alloc ?_ _) | (with_reducible refine Kd.C_drewN ?_ _) | (with_reducible refine Kd.C_drew ?_))); (case q4 => exact (Kd.R_reads' HO_602002.out).2.1); (case q5 => repeat (first | exact (Kd.R_reads' HO_4.out).2.2 | (with_reducible refine Kd.C_alloc ?_ _) | (with_reducible refine Kd.C_drewN ?_ _) | (with_reducible refine Kd.C_drew ?_))); (case q6 => exact (Kd.R_reads' HO_4.out).2.1); (case q7 => repeat (first | exact (Kd.R_reads' HO_5.out).2.2 | (with_reducible refine Kd.C_alloc ?_ _) | (with_reducible refine Kd.C_drewN ?_ _) | (with_reducible refine Kd.C_drew ?_))); (case q8 => exact (Kd.R_reads' HO_5.out).2.1); rintro e w31 ⟨v614, rfl, ho0, hb⟩; refine ⟨_, rfl, ?_⟩; replace HO_602002 := Z.k (Kd.R_below (by (with_reducible repeat (first | apply Kd.R_alloc | apply Kd.R_drewN | apply Kd.R_drew)); exact HO_602002.out) hb); have HO615 := Z.k (Kd.R_lower (Kd.R_new' (Kd.R_new' (Kd.R_new' (Kd.R_new' ho0 (Kd.R_lt (by (with_reducible repeat (first | apply Kd.R_alloc | apply Kd.R_drewN | apply Kd.R_drew)); exact HO_4.out))) (Kd.R_lt (by (with_reducible repeat (first | apply Kd.R_alloc | apply Kd.R_drewN | apply Kd.R_drew)); exact HO_5.out))) (Kd.R_lt (by (with_reducible repeat (first | apply Kd.R_alloc | apply Kd.R_drewN | apply Kd.R_drew)); exact HO_602001.out))) (Kd.R_lt (by (with_reducible repeat (first | apply Kd.R_alloc | apply Kd.R_drewN | apply Kd.R_drew)); exact HO612.out))) (below_size (Z.bs HB.out GE601.out))); replace HO_4 := Z.k (Kd.R_elder' (by (with_reducible repeat (first | apply Kd.R_alloc | apply Kd.R_drewN | apply Kd.R_drew)); exact HO_4.out) (Kd.R_base ho0) hb); replace HO_5 := Z.k (Kd.R_elder' (by (with_reducible repeat (first | apply Kd.R_alloc | apply Kd.R_drewN | apply Kd.R_drew)); exact HO_5.out) (Kd.R_base ho0) hb); replace HO_602001 := Z.k (Kd.R_elder' (by (with_reducible repeat (first | apply Kd.R_alloc | apply Kd.R_drewN | apply Kd.R_drew)); exact HO_602001.out) (Kd.R_base ho0) hb); replace HO612 := Z.k (Kd.R_elder' (by (with_reducible repeat (first | apply Kd.R_alloc | apply Kd.R_drewN | apply Kd.R_drew)); exact HO612.out) (Kd.R_base ho0) hb); replace BK601 := Z.bb BK601 hb; replace HB := Z.st (Z.bs HB.out GE601.out) hb; (try clear hb); (try clear hb2); (try clear hk); (try clear hi); (try clear ho0)))
     go_loopg [8] kj3 (fun kq v8 w' => ∃ (x8_2 : Int), v8 = .int .i64 x8_2 ∧ Aside0 (laws_FnBadMore.l0 kq t595 t598 y610 t613 x8_2 t588 t589 t592 = some r) ∧ Aside0 (kq ≤ kj3) ∧ Aside0 (Kd.R (Kd.int .i64) 3 w' w.heap.size (fun k_ => some k_ ≠ ((.slice Ao27 t598.length co27) : Value).ownBlock ∧ some k_ ≠ (v611 : Value).ownBlock ∧ some k_ ≠ (v614 : Value).ownBlock ∧ some k_ ≠ ((.slice Ao8 t589.length co8) : Value).ownBlock) (.slice Ao30 t595.length co30) t595) ∧ Aside0 (Kd.R (Kd.int .i64) 3 w' w.heap.size (fun k_ => some k_ ≠ ((.slice Ao30 t595.length co30) : Value).ownBlock ∧ some k_ ≠ (v611 : Value).ownBlock ∧ some k_ ≠ (v614 : Value).ownBlock ∧ some k_ ≠ ((.slice Ao8 t589.length co8) : Value).ownBlock) (.slice Ao27 t598.length co27) t598) ∧ Aside0 (Kd.R (Kd.int .i64) 3 w' w.heap.size (fun k_ => some k_ ≠ ((.slice Ao30 t595.length co30) : Value).ownBlock ∧ some k_ ≠ ((.slice Ao27 t598.length co27) : Value).ownBlock ∧ some k_ ≠ (v614 : Value).ownBlock ∧ some k_ ≠ ((.slice Ao8 t589.length co8) : Value).ownBlock) v611 y610) ∧ Aside0 (Kd.R (Kd.int .i64) 3 w' w.heap.size (fun k_ => some k_ ≠ ((.slice Ao30 t595.length co30) : Value).ownBlock ∧ some k_ ≠ ((.slice Ao27 t598.length co27) : Value).ownBlock ∧ some k_ ≠ (v611 : Value).ownBlock ∧ some k_ ≠ ((.slice Ao8 t589.length co8) : Value).ownBlock) v614 t613) ∧ Aside0 (Kd.R (Kd.int .i64) 3 w' w.heap.size (fun k_ => some k_ ≠ ((.slice Ao30 t595.length co30) : Value).ownBlock ∧ some k_ ≠ ((.slice Ao27 t598.length co27) : Value).ownBlock ∧ some k_ ≠ (v611 : Value).ownBlock ∧ some k_ ≠ (v614 : Value).ownBlock) (.slice Ao8 t589.length co8) t589) ∧ Aside0 (Kd.R (Kd.slice 37 k37) 34 w' w.heap.size (fun _ => True) (.slice Ao9 t592.length co9) t592) ∧ Aside0 (w'.heap[gb601]? = some (.cells #[.int .i64 t588, (.slice Ao8 t589.length co8), (.slice Ao9 t592.length co9)] 28 (0, 0))) ∧ Aside0 (Below w.heap.size w w'))
     case atStart => exact ⟨(0), (by first | rfl | (simp; done) | (simp [*]; done)), H', ⟨Nat.le_refl _⟩, ⟨by (with_reducible repeat (first | apply Kd.R_alloc | apply Kd.R_drewN | apply Kd.R_drew)); exact Kd.R_mono HO_4.out (fun _ hk => ⟨hk.1.1.1, ⟨hk.1.2, ⟨hk.2, hk.1.1.2⟩⟩⟩)⟩, ⟨by (with_reducible repeat (first | apply Kd.R_alloc | apply Kd.R_drewN | apply Kd.R_drew)); exact Kd.R_mono HO_5.out (fun _ hk => ⟨hk.1.1.1, ⟨hk.1.2, ⟨hk.2, hk.1.1.2⟩⟩⟩)⟩, ⟨by (with_reducible repeat (first | apply Kd.R_alloc | apply Kd.R_drewN | apply Kd.R_drew)); exact Kd.R_mono HO612.out (fun _ hk => ⟨hk.1.1, ⟨hk.1.2.1, ⟨hk.2, hk.1.2.2⟩⟩⟩)⟩, ⟨by (with_reducible repeat (first | apply Kd.R_alloc | apply Kd.R_drewN | apply Kd.R_drew)); exact Kd.R_mono HO615.out (fun _ hk => ⟨hk.1.1.1.2, ⟨hk.1.1.2, ⟨hk.2, hk.1.2⟩⟩⟩)⟩, ⟨by (with_reducible repeat (first | apply Kd.R_alloc | apply Kd.R_drewN | apply Kd.R_drew)); exact Kd.R_mono HO_602001.out (fun _ hk => ⟨hk.1.1.1, ⟨hk.1.1.2, ⟨hk.1.2, hk.2⟩⟩⟩)⟩, ⟨by (with_reducible repeat (first | apply Kd.R_alloc | apply Kd.R_drewN | apply Kd.R_drew)); exact HO_602002.out⟩, ⟨by (with_reducible repeat (first | refine blk_drewN ?_ _ | refine blk_drew ?_ | refine blk_alloc ?_ _)); exact BK601.out⟩, ⟨Z.bs HB.out GE601.out⟩⟩
     case round =>
      clear H'
      try clear c1
      try clear c2
      try clear c2b0
      try clear c2b1
      try clear p2
      try clear c4
      try clear c11
      try clear c16
      try clear c18
      try clear c19
      try clear c20
      try clear c21
      try clear c22
      try clear hcz12_0
      try clear hcz12_1
      try clear hcz12_2
      try clear hcz16_0
      try clear hcz16_1
      try clear hcz16_2
      try clear hcz29_0
      try clear hcz29_1
      try clear hcz29_2
      try clear hcz7_0
      try clear hcz7_1
      try clear hcz7_2
      try clear hfz12_0
      try clear hfz12_1
      try clear hfz12_2
      try clear hfz16_0
      try clear hfz16_1
      try clear hfz16_2
      try clear hfz29_0
      try clear hfz29_1
      try clear hfz29_2
      try clear hfz7_0
      try clear hfz7_1
      try clear hfz7_2
      try clear p2
      obtain ⟨x8_2, rfl, HA, HK2, HO_4, HO_5, HO_6, HO_7, HO_602001, HO_602002, BK601, HB⟩ := hrel
      cases gk with
      | zero => exact absurd HA.out (by simp [laws_FnBadMore.l0])
      | succ k2 =>
       have H := HA.out
       clear HA
       simp only [laws_FnBadMore.l0] at H
       by_cases c32 : x8_2 < (t613.length : Int)
       ·rw [if_pos c32] at H
        have c32b0 := decide_eq_true c32
        clear c32
        obtain ⟨c33, H⟩ := Z.ifp H
        have c33b0 : decide (0 ≤ x8_2) = true := decide_eq_true c33
        clear c33
        replace H := Option.bind_eq_some_iff.mp H
        obtain ⟨t617, A340, H⟩ := H
        try dsimp only at H
        have A34 := Z.k A340
        clear A340
        by_cases c35 : t617 = true
        ·subst c35
         rw [if_pos rfl] at H
         obtain rfl := Option.some.inj H
         obtain ⟨Ao36, co36, eo36⟩ := Kd.R_slice HO_7.out
         subst eo36
         try go_wp2
         replace HO_4 := Z.k (Kd.R_drew HO_4.out)
         replace HO_5 := Z.k (Kd.R_drew HO_5.out)
         replace HO_6 := Z.k (Kd.R_drew HO_6.out)
         replace HO_7 := Z.k (Kd.R_drew HO_7.out)
         replace HO_602001 := Z.k (Kd.R_drew HO_602001.out)
         replace HO_602002 := Z.k (Kd.R_drew HO_602002.out)
         replace BK601 := Z.k (blk_drew BK601.out)
         replace HB := Z.k (below_drew1 HB.out)
         have p616 : 0 ≤ (x8_2 : Int) := Z.od
         have q616 : x8_2 < (t613.length : Int) := Z.od
         obtain ⟨ad616, e616, hx616_0⟩ := Kd.at_int (Kd.R_reads' HO_7.out).2.2 x8_2 p616 q616
         cases e616
         replace p616 := eq_true p616
         replace q616 := eq_true q616
         obtain ⟨Ao38, co38, eo38⟩ := Kd.R_slice HO_6.out
         (first | subst eo38 | (injection eo38 with f1_ f2_ f3_; have f4_ := f1_.symm; have f5_ := f3_.symm; clear f1_ f2_ f3_; subst f4_; subst f5_))
         refine start_ (n := 8) (S := fun w' => w'.cell? ⟨gb601, 0, none⟩ = some (.int .i64 t588) ∧ w'.cell? ⟨gb601, 1, none⟩ = some (.slice Ao8 t589.length co8) ∧ w'.cell? ⟨gb601, 2, none⟩ = some (.slice Ao9 t592.length co9) ∧ w'.cell? (ad616.add (x8_2).toNat) = some (.int .i64 (rd t613 x8_2))) (ds := []) #[false, false, false, false, false, false, false, false] (by kernel_rfl) rfl rfl ⟨(blk_cell BK601.out 0).trans rfl, (blk_cell BK601.out 1).trans rfl, (blk_cell BK601.out 2).trans rfl, hx616_0⟩ (fun hHeld => ?_); refine with_tabW laws_FnBadMore.tab11 laws_FnBadMore.bits11 (fun HT_ HW_ => ?_)
         generalize wr.drew = w37 at HO_4 HO_5 HO_6 HO_7 HO_602001 HO_602002 BK601 HB hx616_0 hHeld ⊢
         refine Z.pv 1 46 8 2 HT_.out ?_
         refine Z.pv 2 47 8 6 HT_.out ?_
         refine Z.pv 3 48 8 14 HT_.out ?_
         refine Z.pv 4 49 8 30 HT_.out ?_
         refine Z.pv 5 50 8 62 HT_.out ?_
         refine Z.t4 0 45 8 63 HT_.out HW_.out hHeld ?_
         refine Z.t4 6 51 8 127 HT_.out HW_.out hHeld ?_
         refine one_ (i := 7) (N := some 52) (Z.mb 8 255) rfl rfl (one_of HT_.out (by kernel_rfl)) (by decide) (fun K hK => ?_)
         refine goes_ Try.func22 (by kernel_rfl) rfl #[.agg #[.int .i64 t588, .slice Ao8 t589.length co8, .slice Ao9 t592.length co9], .slice Ao30 t595.length co30, .slice Ao38 y610.length co38, .int .i64 (rd t613 x8_2)] (by rfl) rfl rfl Z.ar ?_
         with_reducible refine (impl_SafeFor.calls k2 t588 _ _ t589 _ _ t592 _ _ t595 _ _ y610 (rd t613 x8_2) true _ ?q1 ?q2 ?q3 ?q4 ?q5 ?q6 ?q7 ?q8 A34.out).mono ?_
         (case q1 => repeat (first | exact (Kd.R_reads' HO_602001.out).2.2 | (with_reducible refine Kd.C_alloc ?_ _) | (with_reducible refine Kd.C_drewN ?_ _) | (with_reducible refine Kd.C_drew ?_)))
         (case q2 => exact (Kd.R_reads' HO_602001.out).2.1)
         (case q3 => repeat (first | exact (Kd.R_reads' HO_602002.out).2.2 | (with_reducible refine Kd.C_alloc ?_ _) | (with_reducible refine Kd.C_drewN ?_ _) | (with_reducible refine Kd.C_drew ?_)))
         (case q4 => exact (Kd.R_reads' HO_602002.out).2.1)
         (case q5 => repeat (first | exact (Kd.R_reads' HO_4.out).2.2 | (with_reducible refine Kd.C_alloc ?_ _) | (with_reducible refine Kd.C_drewN ?_ _) | (with_reducible refine Kd.C_drew ?_)))
         (case q6 => exact (Kd.R_reads' HO_4.out).2.1)
         (case q7 => repeat (first | exact (Kd.R_reads' HO_6.out).2.2 | (with_reducible refine Kd.C_alloc ?_ _) | (with_reducible refine Kd.C_drewN ?_ _) | (with_reducible refine Kd.C_drew ?_)))
         (case q8 => exact (Kd.R_reads' HO_6.out).2.1)
         rintro e w39 ⟨rfl, hb⟩
         have HS3_ := (hb.cell (World.block_lt_of_cell? _ _ (hHeld.2.2.2))).trans (hHeld.2.2.2)
         refine ⟨_, rfl, ?_⟩
         replace HO_4 := Z.k (Kd.R_below (by (with_reducible repeat (first | apply Kd.R_alloc | apply Kd.R_drewN | apply Kd.R_drew)); exact HO_4.out) hb)
         replace HO_5 := Z.k (Kd.R_below (by (with_reducible repeat (first | apply Kd.R_alloc | apply Kd.R_drewN | apply Kd.R_drew)); exact HO_5.out) hb)
         replace HO_6 := Z.k (Kd.R_below (by (with_reducible repeat (first | apply Kd.R_alloc | apply Kd.R_drewN | apply Kd.R_drew)); exact HO_6.out) hb)
         replace HO_7 := Z.k (Kd.R_below (by (with_reducible repeat (first | apply Kd.R_alloc | apply Kd.R_drewN | apply Kd.R_drew)); exact HO_7.out) hb)
         replace HO_602001 := Z.k (Kd.R_below (by (with_reducible repeat (first | apply Kd.R_alloc | apply Kd.R_drewN | apply Kd.R_drew)); exact HO_602001.out) hb)
         replace HO_602002 := Z.k (Kd.R_below (by (with_reducible repeat (first | apply Kd.R_alloc | apply Kd.R_drewN | apply Kd.R_drew)); exact HO_602002.out) hb)
         replace BK601 := Z.bb BK601 hb
         replace HB := Z.st (Z.bs HB.out GE601.out) hb
         (try clear hb)
         (try clear hb2)
         (try clear hk)
         (try clear hi)
         refine hK.out _ _ ⟨(blk_cell BK601.out 0).trans rfl, (blk_cell BK601.out 1).trans rfl, (blk_cell BK601.out 2).trans rfl, HS3_⟩ (fun hHeld => ?_)
         clear hK K
         refine Z.nm ?_
         refine done_ (done_of HT_.out (by kernel_rfl)) ?_
         try go_wp2
         go_ret
         exact ⟨by first | rfl | (simp [errW_none, errW_some] <;> rfl) | (simp [*, errW_none, errW_some] <;> rfl), Z.bs HB.out GE601.out⟩
        ·replace c35 := Bool.eq_false_iff.mpr c35
         subst c35
         rw [if_neg (show ¬ (false = true) by decide)] at H
         have H' := Z.k H
         clear H
         obtain ⟨Ao40, co40, eo40⟩ := Kd.R_slice HO_7.out
         subst eo40
         try go_wp2
         replace HO_4 := Z.k (Kd.R_drew HO_4.out)
         replace HO_5 := Z.k (Kd.R_drew HO_5.out)
         replace HO_6 := Z.k (Kd.R_drew HO_6.out)
         replace HO_7 := Z.k (Kd.R_drew HO_7.out)
         replace HO_602001 := Z.k (Kd.R_drew HO_602001.out)
         replace HO_602002 := Z.k (Kd.R_drew HO_602002.out)
         replace BK601 := Z.k (blk_drew BK601.out)
         replace HB := Z.k (below_drew1 HB.out)
         have p616 : 0 ≤ (x8_2 : Int) := Z.od
         have q616 : x8_2 < (t613.length : Int) := Z.od
         obtain ⟨ad616, e616, hx616_0⟩ := Kd.at_int (Kd.R_reads' HO_7.out).2.2 x8_2 p616 q616
         cases e616
         replace p616 := eq_true p616
         replace q616 := eq_true q616
         obtain ⟨Ao42, co42, eo42⟩ := Kd.R_slice HO_6.out
         (first | subst eo42 | (injection eo42 with f1_ f2_ f3_; have f4_ := f1_.symm; have f5_ := f3_.symm; clear f1_ f2_ f3_; subst f4_; subst f5_))
         refine start_ (n := 8) (S := fun w' => w'.cell? ⟨gb601, 0, none⟩ = some (.int .i64 t588) ∧ w'.cell? ⟨gb601, 1, none⟩ = some (.slice Ao8 t589.length co8) ∧ w'.cell? ⟨gb601, 2, none⟩ = some (.slice Ao9 t592.length co9) ∧ w'.cell? (ad616.add (x8_2).toNat) = some (.int .i64 (rd t613 x8_2))) (ds := []) #[false, false, false, false, false, false, false, false] (by kernel_rfl) rfl rfl ⟨(blk_cell BK601.out 0).trans rfl, (blk_cell BK601.out 1).trans rfl, (blk_cell BK601.out 2).trans rfl, hx616_0⟩ (fun hHeld => ?_); refine with_tabW laws_FnBadMore.tab11 laws_FnBadMore.bits11 (fun HT_ HW_ => ?_)
         generalize wr.drew = w41 at HO_4 HO_5 HO_6 HO_7 HO_602001 HO_602002 BK601 HB hx616_0 hHeld ⊢
         refine Z.pv 1 46 8 2 HT_.out ?_
         refine Z.pv 2 47 8 6 HT_.out ?_
         refine Z.pv 3 48 8 14 HT_.out ?_
         refine Z.pv 4 49 8 30 HT_.out ?_
         refine Z.pv 5 50 8 62 HT_.out ?_
         refine Z.t4 0 45 8 63 HT_.out HW_.out hHeld ?_
         refine Z.t4 6 51 8 127 HT_.out HW_.out hHeld ?_
         refine one_ (i := 7) (N := some 52) (Z.mb 8 255) rfl rfl (one_of HT_.out (by kernel_rfl)) (by decide) (fun K hK => ?_)
         refine goes_ Try.func22 (by kernel_rfl) rfl #[.agg #[.int .i64 t588, .slice Ao8 t589.length co8, .slice Ao9 t592.length co9], .slice Ao30 t595.length co30, .slice Ao42 y610.length co42, .int .i64 (rd t613 x8_2)] (by rfl) rfl rfl Z.ar ?_
         with_reducible refine (impl_SafeFor.calls k2 t588 _ _ t589 _ _ t592 _ _ t595 _ _ y610 (rd t613 x8_2) false _ ?q1 ?q2 ?q3 ?q4 ?q5 ?q6 ?q7 ?q8 A34.out).mono ?_
         (case q1 => repeat (first | exact (Kd.R_reads' HO_602001.out).2.2 | (with_reducible refine Kd.C_alloc ?_ _) | (with_reducible refine Kd.C_drewN ?_ _) | (with_reducible refine Kd.C_drew ?_)))
         (case q2 => exact (Kd.R_reads' HO_602001.out).2.1)
         (case q3 => repeat (first | exact (Kd.R_reads' HO_602002.out).2.2 | (with_reducible refine Kd.C_alloc ?_ _) | (with_reducible refine Kd.C_drewN ?_ _) | (with_reducible refine Kd.C_drew ?_)))
         (case q4 => exact (Kd.R_reads' HO_602002.out).2.1)
         (case q5 => repeat (first | exact (Kd.R_reads' HO_4.out).2.2 | (with_reducible refine Kd.C_alloc ?_ _) | (with_reducible refine Kd.C_drewN ?_ _) | (with_reducible refine Kd.C_drew ?_)))
         (case q6 => exact (Kd.R_reads' HO_4.out).2.1)
         (case q7 => repeat (first | exact (Kd.R_reads' HO_6.out).2.2 | (with_reducible refine Kd.C_alloc ?_ _) | (with_reducible refine Kd.C_drewN ?_ _) | (with_reducible refine Kd.C_drew ?_)))
         (case q8 => exact (Kd.R_reads' HO_6.out).2.1)
         rintro e w43 ⟨rfl, hb⟩
         have HS3_ := (hb.cell (World.block_lt_of_cell? _ _ (hHeld.2.2.2))).trans (hHeld.2.2.2)
         refine ⟨_, rfl, ?_⟩
         replace HO_4 := Z.k (Kd.R_below (by (with_reducible repeat (first | apply Kd.R_alloc | apply Kd.R_drewN | apply Kd.R_drew)); exact HO_4.out) hb)
         replace HO_5 := Z.k (Kd.R_below (by (with_reducible repeat (first | apply Kd.R_alloc | apply Kd.R_drewN | apply Kd.R_drew)); exact HO_5.out) hb)
         replace HO_6 := Z.k (Kd.R_below (by (with_reducible repeat (first | apply Kd.R_alloc | apply Kd.R_drewN | apply Kd.R_drew)); exact HO_6.out) hb)
         replace HO_7 := Z.k (Kd.R_below (by (with_reducible repeat (first | apply Kd.R_alloc | apply Kd.R_drewN | apply Kd.R_drew)); exact HO_7.out) hb)
         replace HO_602001 := Z.k (Kd.R_below (by (with_reducible repeat (first | apply Kd.R_alloc | apply Kd.R_drewN | apply Kd.R_drew)); exact HO_602001.out) hb)
         replace HO_602002 := Z.k (Kd.R_below (by (with_reducible repeat (first | apply Kd.R_alloc | apply Kd.R_drewN | apply Kd.R_drew)); exact HO_602002.out) hb)
         replace BK601 := Z.bb BK601 hb
         replace HB := Z.st (Z.bs HB.out GE601.out) hb
         (try clear hb)
         (try clear hb2)
         (try clear hk)
         (try clear hi)
         refine hK.out _ _ ⟨(blk_cell BK601.out 0).trans rfl, (blk_cell BK601.out 1).trans rfl, (blk_cell BK601.out 2).trans rfl, HS3_⟩ (fun hHeld => ?_)
         clear hK K
         refine Z.nm ?_
         refine done_ (done_of HT_.out (by kernel_rfl)) ?_
         try go_wp2
         go_roundg k2
         case measure => have := HJ3.out; have := HK2.out; omega
         case rel => exact ⟨(wrap64 (x8_2 + 1)), (by first | rfl | (simp; done) | (simp [*]; done)), H', ⟨by have := HJ3.out; have := HK2.out; omega⟩, ⟨by (with_reducible repeat (first | apply Kd.R_alloc | apply Kd.R_drewN | apply Kd.R_drew)); exact HO_4.out⟩, ⟨by (with_reducible repeat (first | apply Kd.R_alloc | apply Kd.R_drewN | apply Kd.R_drew)); exact HO_5.out⟩, ⟨by (with_reducible repeat (first | apply Kd.R_alloc | apply Kd.R_drewN | apply Kd.R_drew)); exact HO_6.out⟩, ⟨by (with_reducible repeat (first | apply Kd.R_alloc | apply Kd.R_drewN | apply Kd.R_drew)); exact HO_7.out⟩, ⟨by (with_reducible repeat (first | apply Kd.R_alloc | apply Kd.R_drewN | apply Kd.R_drew)); exact HO_602001.out⟩, ⟨by (with_reducible repeat (first | apply Kd.R_alloc | apply Kd.R_drewN | apply Kd.R_drew)); exact HO_602002.out⟩, ⟨by (with_reducible repeat (first | refine blk_drewN ?_ _ | refine blk_drew ?_ | refine blk_alloc ?_ _)); exact BK601.out⟩, ⟨Z.bs HB.out GE601.out⟩⟩
       ·rw [if_neg c32] at H
        have c32b0 := decide_eq_false c32
        clear c32
        replace H := Option.bind_eq_some_iff.mp H
        obtain ⟨t618, A440, H⟩ := H
        try dsimp only at H
        have A44 := Z.k A440
        clear A440
        have H' := Z.k H
        clear H
        obtain ⟨Ao45, co45, eo45⟩ := Kd.R_slice HO_7.out
        subst eo45
        have hcz46 := Z.c3 BK601.out
        obtain ⟨Ao47, co47, eo47⟩ := Kd.R_slice HO_6.out
        subst eo47
        go_wp2_with (first | ((with_reducible refine gate_callee (f := 23) rfl ?_); refine goesL_ (some 56) rfl rfl Try.func23 (by kernel_rfl) rfl #[.agg #[.int .i64 t588, .slice Ao8 t589.length co8, .slice Ao9 t592.length co9], .slice Ao30 t595.length co30, .slice Ao47 y610.length co47] rfl Z.ar ?_; (with_reducible refine (impl_GuardsOf.calls k2 t588 _ _ t589 _ _ t592 _ _ t595 _ _ y610 t618 _ ?q1 ?q2 ?q3 ?q4 ?q5 ?q6 ?q7 ?q8 A44.out).mono ?_); (case q1 => repeat (first | exact (Kd.R_reads' HO_602001.out).2.2 | (with_reducible refine Kd.C_alloc ?_ _) | (with_reducible refine Kd.C_drewN ?_ _) | (with_reducible refine Kd.C_drew ?_))); (case q2 => exact (Kd.R_reads' HO_602001.out).2.1); (case q3 => repeat (first | exact (Kd.R_reads' HO_602002.out).2.2 | (with_reducible refine Kd.C_alloc ?_ _) | (with_reducible refine Kd.C_drewN ?_ _) | (with_reducible refine Kd.C_drew ?_))); (case q4 => exact (Kd.R_reads' HO_602002.out).2.1); (case q5 => repeat (first | exact (Kd.R_reads' HO_4.out).2.2 | (with_reducible refine Kd.C_alloc ?_ _) | (with_reducible refine Kd.C_drewN ?_ _) | (with_reducible refine Kd.C_drew ?_))); (case q6 => exact (Kd.R_reads' HO_4.out).2.1); (case q7 => repeat (first | exact (Kd.R_reads' HO_6.out).2.2 | (with_reducible refine Kd.C_alloc ?_ _) | (with_reducible refine Kd.C_drewN ?_ _) | (with_reducible refine Kd.C_drew ?_))); (case q8 => exact (Kd.R_reads' HO_6.out).2.1); rintro e w48 ⟨v619, rfl, ho0, hb⟩; refine ⟨_, rfl, ?_⟩; replace HO_602002 := Z.k (Kd.R_below (by (with_reducible repeat (first | apply Kd.R_alloc | apply Kd.R_drewN | apply Kd.R_drew)); exact HO_602002.out) hb); have HO620 := Z.k (Kd.R_lower (Kd.R_new' (Kd.R_new' (Kd.R_new' (Kd.R_new' (Kd.R_new' ho0 (Kd.R_lt (by (with_reducible repeat (first | apply Kd.R_alloc | apply Kd.R_drewN | apply Kd.R_drew)); exact HO_4.out))) (Kd.R_lt (by (with_reducible repeat (first | apply Kd.R_alloc | apply Kd.R_drewN | apply Kd.R_drew)); exact HO_5.out))) (Kd.R_lt (by (with_reducible repeat (first | apply Kd.R_alloc | apply Kd.R_drewN | apply Kd.R_drew)); exact HO_6.out))) (Kd.R_lt (by (with_reducible repeat (first | apply Kd.R_alloc | apply Kd.R_drewN | apply Kd.R_drew)); exact HO_7.out))) (Kd.R_lt (by (with_reducible repeat (first | apply Kd.R_alloc | apply Kd.R_drewN | apply Kd.R_drew)); exact HO_602001.out))) (below_size (Z.bs HB.out GE601.out))); replace HO_4 := Z.k (Kd.R_elder' (by (with_reducible repeat (first | apply Kd.R_alloc | apply Kd.R_drewN | apply Kd.R_drew)); exact HO_4.out) (Kd.R_base ho0) hb); replace HO_5 := Z.k (Kd.R_elder' (by (with_reducible repeat (first | apply Kd.R_alloc | apply Kd.R_drewN | apply Kd.R_drew)); exact HO_5.out) (Kd.R_base ho0) hb); replace HO_6 := Z.k (Kd.R_elder' (by (with_reducible repeat (first | apply Kd.R_alloc | apply Kd.R_drewN | apply Kd.R_drew)); exact HO_6.out) (Kd.R_base ho0) hb); replace HO_7 := Z.k (Kd.R_elder' (by (with_reducible repeat (first | apply Kd.R_alloc | apply Kd.R_drewN | apply Kd.R_drew)); exact HO_7.out) (Kd.R_base ho0) hb); replace HO_602001 := Z.k (Kd.R_elder' (by (with_reducible repeat (first | apply Kd.R_alloc | apply Kd.R_drewN | apply Kd.R_drew)); exact HO_602001.out) (Kd.R_base ho0) hb); replace BK601 := Z.bb BK601 hb; replace HB := Z.st (Z.bs HB.out GE601.out) hb; (try clear hb); (try clear hb2); (try clear hk); (try clear hi); (try clear ho0)))
        go_loopg [10] k2 (fun kq v10 w' => ∃ (x10_3 : Int), v10 = .int .i64 x10_3 ∧ Aside0 (laws_FnBadMore.l1 kq t595 t598 t618 x10_3 t588 t589 t592 = some r) ∧ Aside0 (kq ≤ k2) ∧ Aside0 (Kd.R (Kd.int .i64) 3 w' w.heap.size (fun k_ => some k_ ≠ ((.slice Ao27 t598.length co27) : Value).ownBlock ∧ some k_ ≠ (v619 : Value).ownBlock ∧ some k_ ≠ ((.slice Ao8 t589.length co8) : Value).ownBlock) (.slice Ao30 t595.length co30) t595) ∧ Aside0 (Kd.R (Kd.int .i64) 3 w' w.heap.size (fun k_ => some k_ ≠ ((.slice Ao30 t595.length co30) : Value).ownBlock ∧ some k_ ≠ (v619 : Value).ownBlock ∧ some k_ ≠ ((.slice Ao8 t589.length co8) : Value).ownBlock) (.slice Ao27 t598.length co27) t598) ∧ Aside0 (Kd.R (Kd.int .i64) 3 w' w.heap.size (fun k_ => some k_ ≠ ((.slice Ao30 t595.length co30) : Value).ownBlock ∧ some k_ ≠ ((.slice Ao27 t598.length co27) : Value).ownBlock ∧ some k_ ≠ ((.slice Ao8 t589.length co8) : Value).ownBlock) v619 t618) ∧ Aside0 (Kd.R (Kd.int .i64) 3 w' w.heap.size (fun k_ => some k_ ≠ ((.slice Ao30 t595.length co30) : Value).ownBlock ∧ some k_ ≠ ((.slice Ao27 t598.length co27) : Value).ownBlock ∧ some k_ ≠ (v619 : Value).ownBlock) (.slice Ao8 t589.length co8) t589) ∧ Aside0 (Kd.R (Kd.slice 37 k37) 34 w' w.heap.size (fun _ => True) (.slice Ao9 t592.length co9) t592) ∧ Aside0 (w'.heap[gb601]? = some (.cells #[.int .i64 t588, (.slice Ao8 t589.length co8), (.slice Ao9 t592.length co9)] 28 (0, 0))) ∧ Aside0 (Below w.heap.size w w'))
        case atStart => exact ⟨(0), (by first | rfl | (simp; done) | (simp [*]; done)), H', ⟨Nat.le_refl _⟩, ⟨by (with_reducible repeat (first | apply Kd.R_alloc | apply Kd.R_drewN | apply Kd.R_drew)); exact Kd.R_mono HO_4.out (fun _ hk => ⟨hk.1.1, ⟨hk.2, hk.1.2.2.2⟩⟩)⟩, ⟨by (with_reducible repeat (first | apply Kd.R_alloc | apply Kd.R_drewN | apply Kd.R_drew)); exact Kd.R_mono HO_5.out (fun _ hk => ⟨hk.1.1, ⟨hk.2, hk.1.2.2.2⟩⟩)⟩, ⟨by (with_reducible repeat (first | apply Kd.R_alloc | apply Kd.R_drewN | apply Kd.R_drew)); exact Kd.R_mono HO620.out (fun _ hk => ⟨hk.1.1.1.1.2, ⟨hk.1.1.1.2, hk.2⟩⟩)⟩, ⟨by (with_reducible repeat (first | apply Kd.R_alloc | apply Kd.R_drewN | apply Kd.R_drew)); exact Kd.R_mono HO_602001.out (fun _ hk => ⟨hk.1.1, ⟨hk.1.2.1, hk.2⟩⟩)⟩, ⟨by (with_reducible repeat (first | apply Kd.R_alloc | apply Kd.R_drewN | apply Kd.R_drew)); exact HO_602002.out⟩, ⟨by (with_reducible repeat (first | refine blk_drewN ?_ _ | refine blk_drew ?_ | refine blk_alloc ?_ _)); exact BK601.out⟩, ⟨Z.bs HB.out GE601.out⟩⟩
        case round =>
         clear H'
         try clear c1
         try clear c2
         try clear c2b0
         try clear c2b1
         try clear p2
         try clear c3
         try clear c4
         try clear p6
         try clear q6
         try clear hx6
         try clear c11
         try clear c16
         try clear c18
         try clear c19
         try clear c20
         try clear c21
         try clear c22
         try clear c23
         try clear c32
         try clear c32b0
         try clear c33
         try clear c33b0
         try clear c35
         try clear hcz12_0
         try clear hcz12_1
         try clear hcz12_2
         try clear hcz16_0
         try clear hcz16_1
         try clear hcz16_2
         try clear hcz29_0
         try clear hcz29_1
         try clear hcz29_2
         try clear hcz46_0
         try clear hcz46_1
         try clear hcz46_2
         try clear hcz7_0
         try clear hcz7_1
         try clear hcz7_2
         try clear hfz12_0
         try clear hfz12_1
         try clear hfz12_2
         try clear hfz16_0
         try clear hfz16_1
         try clear hfz16_2
         try clear hfz29_0
         try clear hfz29_1
         try clear hfz29_2
         try clear hfz46_0
         try clear hfz46_1
         try clear hfz46_2
         try clear hfz7_0
         try clear hfz7_1
         try clear hfz7_2
         try clear hx616_0
         try clear p2
         try clear p616
         try clear q616
         obtain ⟨x10_3, rfl, HA, HK3, HO_4, HO_5, HO_9, HO_602001, HO_602002, BK601, HB⟩ := hrel
         cases gk with
         | zero => exact absurd HA.out (by simp [laws_FnBadMore.l1])
         | succ k3 =>
          have H := HA.out
          clear HA
          simp only [laws_FnBadMore.l1] at H
          by_cases c49 : x10_3 < (t618.length : Int)
          ·rw [if_pos c49] at H
           have c49b0 := decide_eq_true c49
           clear c49
           obtain ⟨c50, H⟩ := Z.ifp H
           have c50b0 : decide (0 ≤ x10_3) = true := decide_eq_true c50
           clear c50
           replace H := Option.bind_eq_some_iff.mp H
           obtain ⟨t623, A510, H⟩ := H
           try dsimp only at H
           have A51 := Z.k A510
           clear A510
           replace H := Option.bind_eq_some_iff.mp H
           obtain ⟨t624, A520, H⟩ := H
           try dsimp only at H
           have A52 := Z.k A520
           clear A520
           by_cases c53 : t624 = true
           ·subst c53
            rw [if_pos rfl] at H
            have H' := Z.k H
            clear H
            obtain ⟨Ao54, co54, eo54⟩ := Kd.R_slice HO_9.out
            subst eo54
            try go_wp2
            replace HO_4 := Z.k (Kd.R_drew HO_4.out)
            replace HO_5 := Z.k (Kd.R_drew HO_5.out)
            replace HO_9 := Z.k (Kd.R_drew HO_9.out)
            replace HO_602001 := Z.k (Kd.R_drew HO_602001.out)
            replace HO_602002 := Z.k (Kd.R_drew HO_602002.out)
            replace BK601 := Z.k (blk_drew BK601.out)
            replace HB := Z.k (below_drew1 HB.out)
            have p622 : 0 ≤ (x10_3 : Int) := Z.od
            have q622 : x10_3 < (t618.length : Int) := Z.od
            obtain ⟨ad622, e622, hx622_0⟩ := Kd.at_int (Kd.R_reads' HO_9.out).2.2 x10_3 p622 q622
            cases e622
            replace p622 := eq_true p622
            replace q622 := eq_true q622
            refine start_ (n := 13) (S := fun w' => w'.cell? ⟨gb601, 0, none⟩ = some (.int .i64 t588) ∧ w'.cell? ⟨gb601, 1, none⟩ = some (.slice Ao8 t589.length co8) ∧ w'.cell? ⟨gb601, 2, none⟩ = some (.slice Ao9 t592.length co9) ∧ w'.cell? (ad622.add (x10_3).toNat) = some (.int .i64 (rd t618 x10_3))) (ds := []) #[false, false, false, false, false, false, false, false, false, false, false, false, false] (by kernel_rfl) rfl rfl ⟨(blk_cell BK601.out 0).trans rfl, (blk_cell BK601.out 1).trans rfl, (blk_cell BK601.out 2).trans rfl, hx622_0⟩ (fun hHeld => ?_); refine with_tabW laws_FnBadMore.tab17 laws_FnBadMore.bits17 (fun HT_ HW_ => ?_)
            generalize wr.drew = w55 at HO_4 HO_5 HO_9 HO_602001 HO_602002 BK601 HB hx622_0 hHeld ⊢
            refine Z.pv 1 64 13 2 HT_.out ?_
            refine Z.pv 2 65 13 6 HT_.out ?_
            refine Z.pv 3 66 13 14 HT_.out ?_
            refine Z.pv 4 67 13 30 HT_.out ?_
            refine Z.pv 6 69 13 94 HT_.out ?_
            refine Z.pv 7 70 13 222 HT_.out ?_
            refine Z.pv 8 71 13 478 HT_.out ?_
            refine Z.t4 0 63 13 479 HT_.out HW_.out hHeld ?_
            refine Z.t4 5 68 13 511 HT_.out HW_.out hHeld ?_
            refine Z.t4 9 72 13 1023 HT_.out HW_.out hHeld ?_
            refine one_ (i := 10) (N := some 73) (Z.mb 13 2047) rfl rfl (one_of HT_.out (by kernel_rfl)) (by decide) (fun K hK => ?_)
            refine goes_ Try.func24 (by kernel_rfl) rfl #[.int .i64 t588, .int .i64 (rd t618 x10_3)] (by rfl) rfl rfl Z.ar ?_
            with_reducible refine (impl_LackOf.calls t588 (rd t618 x10_3) t623 _ A51.out).mono ?_
            rintro e w' ⟨rfl, ⟨nd, rfl⟩⟩
            refine ⟨_, rfl, ?_⟩
            refine hK.out _ _ ⟨(blk_cell BK601.out 0).trans rfl, (blk_cell BK601.out 1).trans rfl, (blk_cell BK601.out 2).trans rfl, hHeld.2.2.2⟩ (fun hHeld => ?_)
            clear hK K
            refine Z.nm ?_
            refine one_ (i := 11) (N := some 74) (Z.mb 13 4095) rfl rfl (one_of HT_.out (by kernel_rfl)) (by decide) (fun K hK => ?_)
            refine goes_ Try.func22 (by kernel_rfl) rfl #[.agg #[.int .i64 t588, .slice Ao8 t589.length co8, .slice Ao9 t592.length co9], .slice Ao30 t595.length co30, .slice Ao27 t598.length co27, .int .i64 t623] (by rfl) rfl rfl Z.ar ?_
            with_reducible refine (impl_SafeFor.calls k3 t588 _ _ t589 _ _ t592 _ _ t595 _ _ t598 t623 true _ ?q1 ?q2 ?q3 ?q4 ?q5 ?q6 ?q7 ?q8 A52.out).mono ?_
            (case q1 => repeat (first | exact (Kd.R_reads' HO_602001.out).2.2 | (with_reducible refine Kd.C_alloc ?_ _) | (with_reducible refine Kd.C_drewN ?_ _) | (with_reducible refine Kd.C_drew ?_)))
            (case q2 => exact (Kd.R_reads' HO_602001.out).2.1)
            (case q3 => repeat (first | exact (Kd.R_reads' HO_602002.out).2.2 | (with_reducible refine Kd.C_alloc ?_ _) | (with_reducible refine Kd.C_drewN ?_ _) | (with_reducible refine Kd.C_drew ?_)))
            (case q4 => exact (Kd.R_reads' HO_602002.out).2.1)
            (case q5 => repeat (first | exact (Kd.R_reads' HO_4.out).2.2 | (with_reducible refine Kd.C_alloc ?_ _) | (with_reducible refine Kd.C_drewN ?_ _) | (with_reducible refine Kd.C_drew ?_)))
            (case q6 => exact (Kd.R_reads' HO_4.out).2.1)
            (case q7 => repeat (first | exact (Kd.R_reads' HO_5.out).2.2 | (with_reducible refine Kd.C_alloc ?_ _) | (with_reducible refine Kd.C_drewN ?_ _) | (with_reducible refine Kd.C_drew ?_)))
            (case q8 => exact (Kd.R_reads' HO_5.out).2.1)
            rintro e w56 ⟨rfl, hb⟩
            have HS3_ := (hb.cell (World.block_lt_of_cell? _ _ (hHeld.2.2.2))).trans (hHeld.2.2.2)
            refine ⟨_, rfl, ?_⟩
            replace HO_4 := Z.k (Kd.R_below (by (with_reducible repeat (first | apply Kd.R_alloc | apply Kd.R_drewN | apply Kd.R_drew)); exact HO_4.out) hb)
            replace HO_5 := Z.k (Kd.R_below (by (with_reducible repeat (first | apply Kd.R_alloc | apply Kd.R_drewN | apply Kd.R_drew)); exact HO_5.out) hb)
            replace HO_9 := Z.k (Kd.R_below (by (with_reducible repeat (first | apply Kd.R_alloc | apply Kd.R_drewN | apply Kd.R_drew)); exact HO_9.out) hb)
            replace HO_602001 := Z.k (Kd.R_below (by (with_reducible repeat (first | apply Kd.R_alloc | apply Kd.R_drewN | apply Kd.R_drew)); exact HO_602001.out) hb)
            replace HO_602002 := Z.k (Kd.R_below (by (with_reducible repeat (first | apply Kd.R_alloc | apply Kd.R_drewN | apply Kd.R_drew)); exact HO_602002.out) hb)
            replace BK601 := Z.bb BK601 hb
            replace HB := Z.st (Z.bs HB.out GE601.out) hb
            (try clear hb)
            (try clear hb2)
            (try clear hk)
            (try clear hi)
            refine hK.out _ _ ⟨(blk_cell BK601.out 0).trans rfl, (blk_cell BK601.out 1).trans rfl, (blk_cell BK601.out 2).trans rfl, HS3_⟩ (fun hHeld => ?_)
            clear hK K
            refine Z.nm ?_
            refine Z.pv 12 75 13 8191 HT_.out ?_
            refine done_ (done_of HT_.out (by kernel_rfl)) ?_
            try go_wp2
            go_roundg k3
            case measure => have := HJ3.out; have := HK2.out; have := HK3.out; omega
            case rel => exact ⟨(wrap64 (x10_3 + 1)), (by first | rfl | (simp; done) | (simp [*]; done)), H', ⟨by have := HJ3.out; have := HK2.out; have := HK3.out; omega⟩, ⟨by (with_reducible repeat (first | apply Kd.R_alloc | apply Kd.R_drewN | apply Kd.R_drew)); exact HO_4.out⟩, ⟨by (with_reducible repeat (first | apply Kd.R_alloc | apply Kd.R_drewN | apply Kd.R_drew)); exact HO_5.out⟩, ⟨by (with_reducible repeat (first | apply Kd.R_alloc | apply Kd.R_drewN | apply Kd.R_drew)); exact HO_9.out⟩, ⟨by (with_reducible repeat (first | apply Kd.R_alloc | apply Kd.R_drewN | apply Kd.R_drew)); exact HO_602001.out⟩, ⟨by (with_reducible repeat (first | apply Kd.R_alloc | apply Kd.R_drewN | apply Kd.R_drew)); exact HO_602002.out⟩, ⟨by (with_reducible repeat (first | refine blk_drewN ?_ _ | refine blk_drew ?_ | refine blk_alloc ?_ _)); exact BK601.out⟩, ⟨Z.bs HB.out GE601.out⟩⟩
           ·replace c53 := Bool.eq_false_iff.mpr c53
            subst c53
            rw [if_neg (show ¬ (false = true) by decide)] at H
            obtain rfl := Option.some.inj H
            obtain ⟨Ao57, co57, eo57⟩ := Kd.R_slice HO_9.out
            subst eo57
            try go_wp2
            replace HO_4 := Z.k (Kd.R_drew HO_4.out)
            replace HO_5 := Z.k (Kd.R_drew HO_5.out)
            replace HO_9 := Z.k (Kd.R_drew HO_9.out)
            replace HO_602001 := Z.k (Kd.R_drew HO_602001.out)
            replace HO_602002 := Z.k (Kd.R_drew HO_602002.out)
            replace BK601 := Z.k (blk_drew BK601.out)
            replace HB := Z.k (below_drew1 HB.out)
            have p622 : 0 ≤ (x10_3 : Int) := Z.od
            have q622 : x10_3 < (t618.length : Int) := Z.od
            obtain ⟨ad622, e622, hx622_0⟩ := Kd.at_int (Kd.R_reads' HO_9.out).2.2 x10_3 p622 q622
            cases e622
            replace p622 := eq_true p622
            replace q622 := eq_true q622
            refine start_ (n := 13) (S := fun w' => w'.cell? ⟨gb601, 0, none⟩ = some (.int .i64 t588) ∧ w'.cell? ⟨gb601, 1, none⟩ = some (.slice Ao8 t589.length co8) ∧ w'.cell? ⟨gb601, 2, none⟩ = some (.slice Ao9 t592.length co9) ∧ w'.cell? (ad622.add (x10_3).toNat) = some (.int .i64 (rd t618 x10_3))) (ds := []) #[false, false, false, false, false, false, false, false, false, false, false, false, false] (by kernel_rfl) rfl rfl ⟨(blk_cell BK601.out 0).trans rfl, (blk_cell BK601.out 1).trans rfl, (blk_cell BK601.out 2).trans rfl, hx622_0⟩ (fun hHeld => ?_); refine with_tabW laws_FnBadMore.tab17 laws_FnBadMore.bits17 (fun HT_ HW_ => ?_)
            generalize wr.drew = w58 at HO_4 HO_5 HO_9 HO_602001 HO_602002 BK601 HB hx622_0 hHeld ⊢
            refine Z.pv 1 64 13 2 HT_.out ?_
            refine Z.pv 2 65 13 6 HT_.out ?_
            refine Z.pv 3 66 13 14 HT_.out ?_
            refine Z.pv 4 67 13 30 HT_.out ?_
            refine Z.pv 6 69 13 94 HT_.out ?_
            refine Z.pv 7 70 13 222 HT_.out ?_
            refine Z.pv 8 71 13 478 HT_.out ?_
            refine Z.t4 0 63 13 479 HT_.out HW_.out hHeld ?_
            refine Z.t4 5 68 13 511 HT_.out HW_.out hHeld ?_
            refine Z.t4 9 72 13 1023 HT_.out HW_.out hHeld ?_
            refine one_ (i := 10) (N := some 73) (Z.mb 13 2047) rfl rfl (one_of HT_.out (by kernel_rfl)) (by decide) (fun K hK => ?_)
            refine goes_ Try.func24 (by kernel_rfl) rfl #[.int .i64 t588, .int .i64 (rd t618 x10_3)] (by rfl) rfl rfl Z.ar ?_
            with_reducible refine (impl_LackOf.calls t588 (rd t618 x10_3) t623 _ A51.out).mono ?_
            rintro e w' ⟨rfl, ⟨nd, rfl⟩⟩
            refine ⟨_, rfl, ?_⟩
            refine hK.out _ _ ⟨(blk_cell BK601.out 0).trans rfl, (blk_cell BK601.out 1).trans rfl, (blk_cell BK601.out 2).trans rfl, hHeld.2.2.2⟩ (fun hHeld => ?_)
            clear hK K
            refine Z.nm ?_
            refine one_ (i := 11) (N := some 74) (Z.mb 13 4095) rfl rfl (one_of HT_.out (by kernel_rfl)) (by decide) (fun K hK => ?_)
            refine goes_ Try.func22 (by kernel_rfl) rfl #[.agg #[.int .i64 t588, .slice Ao8 t589.length co8, .slice Ao9 t592.length co9], .slice Ao30 t595.length co30, .slice Ao27 t598.length co27, .int .i64 t623] (by rfl) rfl rfl Z.ar ?_
            with_reducible refine (impl_SafeFor.calls k3 t588 _ _ t589 _ _ t592 _ _ t595 _ _ t598 t623 false _ ?q1 ?q2 ?q3 ?q4 ?q5 ?q6 ?q7 ?q8 A52.out).mono ?_
            (case q1 => repeat (first | exact (Kd.R_reads' HO_602001.out).2.2 | (with_reducible refine Kd.C_alloc ?_ _) | (with_reducible refine Kd.C_drewN ?_ _) | (with_reducible refine Kd.C_drew ?_)))
            (case q2 => exact (Kd.R_reads' HO_602001.out).2.1)
            (case q3 => repeat (first | exact (Kd.R_reads' HO_602002.out).2.2 | (with_reducible refine Kd.C_alloc ?_ _) | (with_reducible refine Kd.C_drewN ?_ _) | (with_reducible refine Kd.C_drew ?_)))
            (case q4 => exact (Kd.R_reads' HO_602002.out).2.1)
            (case q5 => repeat (first | exact (Kd.R_reads' HO_4.out).2.2 | (with_reducible refine Kd.C_alloc ?_ _) | (with_reducible refine Kd.C_drewN ?_ _) | (with_reducible refine Kd.C_drew ?_)))
            (case q6 => exact (Kd.R_reads' HO_4.out).2.1)
            (case q7 => repeat (first | exact (Kd.R_reads' HO_5.out).2.2 | (with_reducible refine Kd.C_alloc ?_ _) | (with_reducible refine Kd.C_drewN ?_ _) | (with_reducible refine Kd.C_drew ?_)))
            (case q8 => exact (Kd.R_reads' HO_5.out).2.1)
            rintro e w59 ⟨rfl, hb⟩
            have HS3_ := (hb.cell (World.block_lt_of_cell? _ _ (hHeld.2.2.2))).trans (hHeld.2.2.2)
            refine ⟨_, rfl, ?_⟩
            replace HO_4 := Z.k (Kd.R_below (by (with_reducible repeat (first | apply Kd.R_alloc | apply Kd.R_drewN | apply Kd.R_drew)); exact HO_4.out) hb)
            replace HO_5 := Z.k (Kd.R_below (by (with_reducible repeat (first | apply Kd.R_alloc | apply Kd.R_drewN | apply Kd.R_drew)); exact HO_5.out) hb)
            replace HO_9 := Z.k (Kd.R_below (by (with_reducible repeat (first | apply Kd.R_alloc | apply Kd.R_drewN | apply Kd.R_drew)); exact HO_9.out) hb)
            replace HO_602001 := Z.k (Kd.R_below (by (with_reducible repeat (first | apply Kd.R_alloc | apply Kd.R_drewN | apply Kd.R_drew)); exact HO_602001.out) hb)
            replace HO_602002 := Z.k (Kd.R_below (by (with_reducible repeat (first | apply Kd.R_alloc | apply Kd.R_drewN | apply Kd.R_drew)); exact HO_602002.out) hb)
            replace BK601 := Z.bb BK601 hb
            replace HB := Z.st (Z.bs HB.out GE601.out) hb
            (try clear hb)
            (try clear hb2)
            (try clear hk)
            (try clear hi)
            refine hK.out _ _ ⟨(blk_cell BK601.out 0).trans rfl, (blk_cell BK601.out 1).trans rfl, (blk_cell BK601.out 2).trans rfl, HS3_⟩ (fun hHeld => ?_)
            clear hK K
            refine Z.nm ?_
            refine Z.pv 12 75 13 8191 HT_.out ?_
            refine done_ (done_of HT_.out (by kernel_rfl)) ?_
            try go_wp2
            go_ret
            exact ⟨by first | rfl | (simp [errW_none, errW_some] <;> rfl) | (simp [*, errW_none, errW_some] <;> rfl), Z.bs HB.out GE601.out⟩
          ·rw [if_neg c49] at H
           have c49b0 := decide_eq_false c49
           clear c49
           replace H := Option.bind_eq_some_iff.mp H
           obtain ⟨t621, A600, H⟩ := H
           try dsimp only at H
           have A60 := Z.k A600
           clear A600
           obtain rfl := Option.some.inj H
           obtain ⟨Ao61, co61, eo61⟩ := Kd.R_slice HO_9.out
           subst eo61
           go_wp2_with (first | ((with_reducible refine gate_callee (f := 18) rfl ?_); refine goesL_ (some 76) rfl rfl Try.func18 (by kernel_rfl) rfl #[] rfl Z.ar ?_; (with_reducible refine (laws_alive.calls  t621 _ A60.out).mono ?_); rintro e w' ⟨rfl, ⟨nd, rfl⟩⟩; refine ⟨_, rfl, ?_⟩))
           go_ret
           exact ⟨by first | rfl | (simp [errW_none, errW_some] <;> rfl) | (simp [*, errW_none, errW_some] <;> rfl), Z.bs HB.out GE601.out⟩
/-- THE ONE PURE STATEMENT of laws_FnBadMore: yours. -/
def laws_FnBadMore.Pure : Prop := ∀ (l0 : List Int), l0.length ≤ maxLen → l0.length * 1 ≤ 140737488351232 → (∀ x ∈ l0, (Lit.int .u8 x).wf = true) → ∃ k, laws_FnBadMore.f k l0 = some true
theorem laws_FnBadMore.walk (P : laws_FnBadMore.Pure) (a0 : Option Addr) (len0 cap0 : Nat) (z0 : List Int) (w : World) (w0 : (a0 = none ∧ len0 = 0 ∧ cap0 = 0 ∧ z0 = []) ∨ ∃ x, a0 = some x ∧ len0 ≤ cap0 ∧ cap0 ≤ maxLen ∧ z0.length = cap0 ∧ (∀ i, i < z0.length → w.cell? (x.add i) = some (.int .u8 (z0.getD i 0))) ∧ ∀ n ∈ z0, (Lit.int .u8 n).wf = true) (y0 : len0 * 1 ≤ 140737488351232) :
  Calls Try.prog 4 #[.slice a0 len0 cap0] w fun e w' => e = .returned (.bool true) ∧ Below w.heap.size w w' := by
 obtain ⟨l0, rfl, hr0, hm0, hw0, hc0⟩ := ReadsInt.ofRowC w0
 obtain ⟨k, h⟩ := P l0 hm0 y0 hw0
 refine (laws_FnBadMore.calls k _ _ l0 true w (Kd.C_of_reads (d := (0 : Int)) (h1 := fun _ => rfl) hr0) hc0 h).mono ?_
 rintro e w' ⟨rfl, hd⟩
 exact ⟨rfl, hd⟩

end Go.Proofs.Ytkogboechfieeaa.PAll

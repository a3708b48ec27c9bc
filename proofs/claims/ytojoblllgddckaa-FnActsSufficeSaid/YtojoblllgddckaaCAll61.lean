/- Walks of functions that laws of this seat reach, in the form of the print. -/
import Derived.Test.YtojoblllgddckaaCAll0
import Derived.Test.YtojoblllgddckaaCAll1
import Derived.Test.YtojoblllgddckaaCAll9
import Derived.Test.YtojoblllgddckaaCAll20
import Derived.Test.YtojoblllgddckaaCAll21
import Derived.Test.YtojoblllgddckaaCAll22
import Derived.Test.YtojoblllgddckaaCAll50
import Derived.Test.YtojoblllgddckaaZ
-- PRINTED
namespace Go.Proofs.Ytojoblllgddckaa.PAll
open Go.RowKit Go.Proofs.YtojoblllgddckaaW.PrintWords Go.Proofs.YtojoblllgddckaaW.PrintLast Go.Proofs.YtojoblllgddckaaW.PrintMore
attribute [local go_sem] max2_int min2_int max_two min_two max_three min_three max_four min_four
set_option linter.unusedVariables false
set_option linter.unusedSimpArgs false

/-! ### laws_FnActsSuffice: function 7 -/
mutual
def laws_FnActsSuffice.j0 : Nat → List Int → Option (Bool)
 | 0, _ => none
 | k + 1, x0 => (spec_DrawChangesTo.f k x0).bind fun bt668 => ((impl_ChangesTo.f k bt668.1 bt668.2.1 bt668.2.2.1 bt668.2.2.2.1 bt668.2.2.2.2.1 bt668.2.2.2.2.2).bind fun t683 => (if t683 ≤ 0 then (laws_FnActsSuffice.j1 k bt668.2.2.2.1 bt668.2.2.2.2.1 bt668.2.2.2.2.2 t683 true bt668.1 bt668.2.1 bt668.2.2.1) else ((spec_StateOk.f k bt668.1 bt668.2.1 bt668.2.2.1 bt668.2.2.2.1).bind fun t684 => (laws_FnActsSuffice.j1 k bt668.2.2.2.1 bt668.2.2.2.2.1 bt668.2.2.2.2.2 t683 (!t684) bt668.1 bt668.2.1 bt668.2.2.1))))
def laws_FnActsSuffice.j1 : Nat → List Int → List Int → Int → Int → Bool → Int → List Int → List (List (S91)) → Option (Bool)
 | 0, _, _, _, _, _, _, _, _ => none
 | k + 1, x4, x5, x6, x7, x34, x683000, x683001, x683002 => if x34 = true then (if x7 ≥ (-1) then ((laws_alive.f).bind fun t685 => (some t685)) else (some false)) else (laws_FnActsSuffice.j2 k x4 x5 x6 x7 x683000 x683001 x683002)
def laws_FnActsSuffice.j2 : Nat → List Int → List Int → Int → Int → Int → List Int → List (List (S91)) → Option (Bool)
 | 0, _, _, _, _, _, _, _ => none
 | k + 1, x4, x5, x6, x7, x683000, x683001, x683002 => laws_FnActsSuffice.l0 k x4 x5 x6 x7 0 x683000 x683001 x683002
def laws_FnActsSuffice.l0 : Nat → List Int → List Int → Int → Int → Int → Int → List Int → List (List (S91)) → Option (Bool)
 | 0, _, _, _, _, _, _, _, _ => none
 | k + 1, x4, x5, x6, x7, x8, x683000, x683001, x683002 => if x8 < (x683002.length : Int) then (laws_FnActsSuffice.j4 k x4 x5 x6 x7 x8 x683000 x683001 x683002) else ((laws_alive.f).bind fun t686 => (if t686 = true then (some false) else (some false)))
def laws_FnActsSuffice.j4 : Nat → List Int → List Int → Int → Int → Int → Int → List Int → List (List (S91)) → Option (Bool)
 | 0, _, _, _, _, _, _, _, _ => none
 | k + 1, x4, x5, x6, x7, x8, x683000, x683001, x683002 => laws_FnActsSuffice.l1 k x4 x5 x6 x7 x8 0 x683000 x683001 x683002
def laws_FnActsSuffice.l1 : Nat → List Int → List Int → Int → Int → Int → Int → Int → List Int → List (List (S91)) → Option (Bool)
 | 0, _, _, _, _, _, _, _, _, _ => none
 | k + 1, x4, x5, x6, x7, x8, x9, x683000, x683001, x683002 => if 0 ≤ x8 then (if x8 < (x683002.length : Int) then (if x9 < ((rd_L5 x683002 x8).length : Int) then (laws_FnActsSuffice.j6 k x4 x5 x6 x7 x8 x9 x683000 x683001 x683002) else (laws_FnActsSuffice.l0 k x4 x5 x6 x7 (wrap64 (x8 + 1)) x683000 x683001 x683002)) else (none)) else (none)
def laws_FnActsSuffice.j6 : Nat → List Int → List Int → Int → Int → Int → Int → Int → List Int → List (List (S91)) → Option (Bool)
 | 0, _, _, _, _, _, _, _, _, _ => none
 | k + 1, x4, x5, x6, x7, x8, x9, x683000, x683001, x683002 => (impl_AfterActs.f k x683000 x683001 x683002 x4 (([(⟨x8, x9, x6⟩ : S48)] : List (S48)))).bind fun bt691 => (if bt691.2 = 1 then ((impl_MayChange.f k x683000 x683001 x683002 x4 x8 x9 x6).bind fun t695 => (if t695 = true then ((impl_ChangesTo.f k x683000 x683001 x683002 bt691.1 x5 x6).bind fun t696 => (if t696 = (wrap64 (x7 - 1)) then (some true) else (laws_FnActsSuffice.l1 k x4 x5 x6 x7 x8 (wrap64 (x9 + 1)) x683000 x683001 x683002))) else (laws_FnActsSuffice.l1 k x4 x5 x6 x7 x8 (wrap64 (x9 + 1)) x683000 x683001 x683002))) else (laws_FnActsSuffice.l1 k x4 x5 x6 x7 x8 (wrap64 (x9 + 1)) x683000 x683001 x683002))
end
def laws_FnActsSuffice.f (k : Nat) (l0 : List Int) : Option (Bool) := if (l0.length : Int) > 1048576 then (some true) else (laws_FnActsSuffice.j0 k l0)
set_option maxHeartbeats 8000000 in
set_option maxRecDepth 100000 in
theorem laws_FnActsSuffice.calls (k : Nat) (A0 : Option Addr) (c0 : Nat) (l0 : List Int) (r : Bool) (w : World) (hr0 : Kd.C (Kd.int .u8) w A0 l0.length l0) (hc0 : l0.length ≤ c0) (h : laws_FnActsSuffice.f k l0 = some r) :
  Calls Try.prog 7 #[.slice A0 l0.length c0] w fun e w' => e = .returned (.bool r) ∧ Below w.heap.size w w' := by
 have hu46 := Try.underlying46
 have hu48 := Try.underlying48
 have HR0 := Z.k hr0
 have HC0 := Z.k hc0
 clear hr0 hc0
 have HB := Z.k (Below.refl w.heap.size w)
 have H := h
 clear h
 unfold laws_FnActsSuffice.f at H
 have HC2 := Z.k H
 clear H
 go_enter Try.func7, Try.ntmps7
 go_upto_if 14 with (fail)
 go_cut [] (fun wc => ∃ (kq : Nat), Aside0 (laws_FnActsSuffice.j0 kq l0 = some r) ∧ Aside0 (kq ≤ k) ∧ Aside0 (Below w.heap.size w wc))
 case first =>
  have H := HC2.out
  clear HC2
  by_cases c3 : (l0.length : Int) > 1048576
  ·rw [if_pos c3] at H
   have c3b0 : decide (1048576 < (l0.length : Int)) = true := decide_eq_true c3
   have c3b1 : decide (1048576 < l0.length) = true := decide_eq_true (by omega)
   clear c3
   (rw [c3b0])
   obtain rfl := Option.some.inj H
   go_wp2
   go_ret
   exact ⟨by rfl, Z.bl HB.out⟩
  ·rw [if_neg c3] at H
   have c3b0 : decide (1048576 < (l0.length : Int)) = false := decide_eq_false c3
   have c3b1 : decide (1048576 < l0.length) = false := decide_eq_false (by omega)
   clear c3
   (rw [c3b0])
   have H' := Z.k H
   clear H
   go_wp2
   go_meet
   case rel => exact ⟨_, H', ⟨by omega⟩, ⟨Z.bl HB.out⟩⟩
 case rest =>
  clear HC2
  obtain ⟨kq, HA, HJ1, HB⟩ := hcut
  cases kq with
  | zero => exact absurd HA.out (by simp [laws_FnActsSuffice.j0])
  | succ kj1 =>
   have H := HA.out
   clear HA
   simp only [laws_FnActsSuffice.j0] at H
   replace H := Option.bind_eq_some_iff.mp H
   obtain ⟨⟨t668, t669, t672, t675, t678, t681⟩, A40, H⟩ := H
   try dsimp only at H
   have A4 := Z.k A40
   clear A40
   replace H := Option.bind_eq_some_iff.mp H
   obtain ⟨t683, A50, H⟩ := H
   have A5 := Z.k A50
   clear A50
   have HC6 := Z.k H
   clear H
   go_upto_region 5 with (first | ((with_reducible refine gate_callee (f := 27) rfl ?_); refine goesL_ (some 17) rfl rfl Try.func27 (by kernel_rfl) rfl #[.slice A0 l0.length c0] rfl Z.ar ?_; (with_reducible refine (spec_DrawChangesTo.calls kj1 _ _ l0 t668 t669 t672 t675 t678 t681 _ ?q1 ?q2 A4.out).mono ?_); (case q1 => exact Z.cc HR0 HB); (case q2 => exact HC0.out); rintro e w7 ⟨v670, v673, v676, v679, rfl, ho0, ho1, ho2, ho3, hb⟩; refine ⟨_, rfl, ?_⟩; have HO671 := Z.k (Kd.R_lower ho0 (below_size (Z.bl HB.out))); have HO674 := Z.k (Kd.R_lower ho1 (below_size (Z.bl HB.out))); have HO677 := Z.k (Kd.R_lower ho2 (below_size (Z.bl HB.out))); have HO680 := Z.k (Kd.R_lower ho3 (below_size (Z.bl HB.out))); replace HB := Z.st (Z.bl HB.out) hb; (try clear hb); (try clear ho0); (try clear ho1); (try clear ho2); (try clear ho3)) | ((with_reducible refine gate_dst (N := 3) rfl ?_); refine Z.bx #[.int .i64 0, .slice none 0 0, .slice none 0 0] 46 HB ?_; clear HB; intro gb682 w8 BK682 GE682 HB hg hb; have GW682 := GE682; replace HO671 := Z.k (Kd.R_below (by (with_reducible skip); exact HO671.out) hb); replace HO674 := Z.k (Kd.R_below (by (with_reducible skip); exact HO674.out) hb); replace HO677 := Z.k (Kd.R_below (by (with_reducible skip); exact HO677.out) hb); replace HO680 := Z.k (Kd.R_below (by (with_reducible skip); exact HO680.out) hb); clear hb hg; have hcz9 := Z.c3 BK682.out; obtain ⟨Ao10, co10, eo10⟩ := Kd.R_slice HO671.out; subst eo10; obtain ⟨Ao11, co11, eo11⟩ := Kd.R_slice HO674.out; subst eo11; obtain ⟨Ao12, co12, eo12⟩ := Kd.R_slice HO677.out; subst eo12; obtain ⟨Ao13, co13, eo13⟩ := Kd.R_slice HO680.out; subst eo13) | ((with_reducible refine gate_callee (f := 28) rfl ?_); refine goesL_ (some 26) rfl rfl Try.func28 (by kernel_rfl) rfl #[.agg #[.int .i64 t668, .slice Ao10 t669.length co10, .slice Ao11 t672.length co11], .slice Ao12 t675.length co12, .slice Ao13 t678.length co13, .int .i64 t681] rfl Z.ar ?_; (with_reducible refine (impl_ChangesTo.calls kj1 t668 _ _ t669 _ _ t672 _ _ t675 _ _ t678 t681 t683 _ ?q1 ?q2 ?q3 ?q4 ?q5 ?q6 ?q7 ?q8 A5.out).mono ?_); (case q1 => refine (Kd.R_reads' (e := 3) (base := w.heap.size) (ok := fun k_ => (some k_ ≠ (.slice Ao12 t675.length co12 : Value).ownBlock ∧ some k_ ≠ (.slice Ao13 t678.length co13 : Value).ownBlock)) (n := t669.length) (c := co10) ?_).2.2; exact (by (with_reducible skip); exact (Kd.R_mono (Kd.R_far (p := ⟨gb682, 2, none⟩) (Kd.R_far (p := ⟨gb682, 1, none⟩) (Kd.R_far (p := ⟨gb682, 0, none⟩) (Kd.R_types HO671.out BK682.out (by decide)) (fun _ hk => hk.2) (.int .i64 t668)) (fun _ hk => hk.2) (.slice Ao10 t669.length co10)) (fun _ hk => hk.2) (.slice Ao11 t672.length co11)) (fun _ h_ => h_.1)))); (case q2 => exact (Kd.R_reads' HO671.out).2.1); (case q3 => refine (Kd.R_reads' (e := 56) (base := w.heap.size) (ok := fun k_ => True) (n := t672.length) (c := co11) ?_).2.2; exact (by (with_reducible skip); exact (Kd.R_mono (Kd.R_far (p := ⟨gb682, 2, none⟩) (Kd.R_far (p := ⟨gb682, 1, none⟩) (Kd.R_far (p := ⟨gb682, 0, none⟩) (Kd.R_types HO674.out BK682.out (by decide)) (fun _ hk => hk.2) (.int .i64 t668)) (fun _ hk => hk.2) (.slice Ao10 t669.length co10)) (fun _ hk => hk.2) (.slice Ao11 t672.length co11)) (fun _ h_ => h_.1)))); (case q4 => exact (Kd.R_reads' HO674.out).2.1); (case q5 => refine (Kd.R_reads' (e := 3) (base := w.heap.size) (ok := fun k_ => (some k_ ≠ (.slice Ao10 t669.length co10 : Value).ownBlock ∧ some k_ ≠ (.slice Ao13 t678.length co13 : Value).ownBlock)) (n := t675.length) (c := co12) ?_).2.2; exact (by (with_reducible skip); exact (Kd.R_mono (Kd.R_far (p := ⟨gb682, 2, none⟩) (Kd.R_far (p := ⟨gb682, 1, none⟩) (Kd.R_far (p := ⟨gb682, 0, none⟩) (Kd.R_types HO677.out BK682.out (by decide)) (fun _ hk => hk.2) (.int .i64 t668)) (fun _ hk => hk.2) (.slice Ao10 t669.length co10)) (fun _ hk => hk.2) (.slice Ao11 t672.length co11)) (fun _ h_ => h_.1)))); (case q6 => exact (Kd.R_reads' HO677.out).2.1); (case q7 => refine (Kd.R_reads' (e := 3) (base := w.heap.size) (ok := fun k_ => (some k_ ≠ (.slice Ao10 t669.length co10 : Value).ownBlock ∧ some k_ ≠ (.slice Ao12 t675.length co12 : Value).ownBlock)) (n := t678.length) (c := co13) ?_).2.2; exact (by (with_reducible skip); exact (Kd.R_mono (Kd.R_far (p := ⟨gb682, 2, none⟩) (Kd.R_far (p := ⟨gb682, 1, none⟩) (Kd.R_far (p := ⟨gb682, 0, none⟩) (Kd.R_types HO680.out BK682.out (by decide)) (fun _ hk => hk.2) (.int .i64 t668)) (fun _ hk => hk.2) (.slice Ao10 t669.length co10)) (fun _ hk => hk.2) (.slice Ao11 t672.length co11)) (fun _ h_ => h_.1)))); (case q8 => exact (Kd.R_reads' HO680.out).2.1); rintro e w14 ⟨rfl, hb⟩; refine ⟨_, rfl, ?_⟩; replace HO671 := Z.k (Kd.R_below (by (with_reducible skip); exact (Kd.R_mono (Kd.R_far (p := ⟨gb682, 2, none⟩) (Kd.R_far (p := ⟨gb682, 1, none⟩) (Kd.R_far (p := ⟨gb682, 0, none⟩) (Kd.R_types HO671.out BK682.out (by decide)) (fun _ hk => hk.2) (.int .i64 t668)) (fun _ hk => hk.2) (.slice Ao10 t669.length co10)) (fun _ hk => hk.2) (.slice Ao11 t672.length co11)) (fun _ h_ => h_.1))) hb); replace HO674 := Z.k (Kd.R_below (by (with_reducible skip); exact (Kd.R_mono (Kd.R_far (p := ⟨gb682, 2, none⟩) (Kd.R_far (p := ⟨gb682, 1, none⟩) (Kd.R_far (p := ⟨gb682, 0, none⟩) (Kd.R_types HO674.out BK682.out (by decide)) (fun _ hk => hk.2) (.int .i64 t668)) (fun _ hk => hk.2) (.slice Ao10 t669.length co10)) (fun _ hk => hk.2) (.slice Ao11 t672.length co11)) (fun _ h_ => h_.1))) hb); replace HO677 := Z.k (Kd.R_below (by (with_reducible skip); exact (Kd.R_mono (Kd.R_far (p := ⟨gb682, 2, none⟩) (Kd.R_far (p := ⟨gb682, 1, none⟩) (Kd.R_far (p := ⟨gb682, 0, none⟩) (Kd.R_types HO677.out BK682.out (by decide)) (fun _ hk => hk.2) (.int .i64 t668)) (fun _ hk => hk.2) (.slice Ao10 t669.length co10)) (fun _ hk => hk.2) (.slice Ao11 t672.length co11)) (fun _ h_ => h_.1))) hb); replace HO680 := Z.k (Kd.R_below (by (with_reducible skip); exact (Kd.R_mono (Kd.R_far (p := ⟨gb682, 2, none⟩) (Kd.R_far (p := ⟨gb682, 1, none⟩) (Kd.R_far (p := ⟨gb682, 0, none⟩) (Kd.R_types HO680.out BK682.out (by decide)) (fun _ hk => hk.2) (.int .i64 t668)) (fun _ hk => hk.2) (.slice Ao10 t669.length co10)) (fun _ hk => hk.2) (.slice Ao11 t672.length co11)) (fun _ h_ => h_.1))) hb); replace BK682 := Z.k (blk_below (g := gb682) (o := .cells #[.int .i64 t668, .slice Ao10 t669.length co10, .slice Ao11 t672.length co11] 46 (0, 0)) (by (with_reducible skip); refine blk_put (cs := #[.int .i64 t668, .slice Ao10 t669.length co10, .slice none 0 0]) ?_ 2 _ rfl; (with_reducible skip); refine blk_put (cs := #[.int .i64 t668, .slice none 0 0, .slice none 0 0]) ?_ 1 _ rfl; (with_reducible skip); refine blk_put (cs := #[.int .i64 0, .slice none 0 0, .slice none 0 0]) ?_ 0 _ rfl; (with_reducible skip); exact BK682.out) hb); replace HB := Z.st (Z.bs HB.out GE682.out) hb; (try clear hb)))
   go_cut [34] (fun v34 wc => ∃ (kq : Nat) (x34_5 : Bool), v34 = .bool x34_5 ∧ Aside0 (laws_FnActsSuffice.j1 kq t675 t678 t681 t683 x34_5 t668 t669 t672 = some r) ∧ Aside0 (kq ≤ kj1) ∧ Aside0 (Kd.R (Kd.int .i64) 3 wc w.heap.size (fun k_ => some k_ ≠ ((.slice Ao13 t678.length co13) : Value).ownBlock ∧ some k_ ≠ ((.slice Ao10 t669.length co10) : Value).ownBlock) (.slice Ao12 t675.length co12) t675) ∧ Aside0 (Kd.R (Kd.int .i64) 3 wc w.heap.size (fun k_ => some k_ ≠ ((.slice Ao12 t675.length co12) : Value).ownBlock ∧ some k_ ≠ ((.slice Ao10 t669.length co10) : Value).ownBlock) (.slice Ao13 t678.length co13) t678) ∧ Aside0 (Kd.R (Kd.int .i64) 3 wc w.heap.size (fun k_ => some k_ ≠ ((.slice Ao12 t675.length co12) : Value).ownBlock ∧ some k_ ≠ ((.slice Ao13 t678.length co13) : Value).ownBlock) (.slice Ao10 t669.length co10) t669) ∧ Aside0 (Kd.R (Kd.slice 91 k91) 56 wc w.heap.size (fun _ => True) (.slice Ao11 t672.length co11) t672) ∧ Aside0 (wc.heap[gb682]? = some (.cells #[.int .i64 t668, (.slice Ao10 t669.length co10), (.slice Ao11 t672.length co11)] 46 (0, 0))) ∧ Aside0 (Below w.heap.size w wc))
   case first =>
    have H := HC6.out
    clear HC6
    by_cases c15 : t683 ≤ 0
    ·rw [if_pos c15] at H
     have c15b0 := decide_eq_true c15
     clear c15
     have H' := Z.k H
     clear H
     go_wp2
     go_meet
     case rel => exact ⟨_, (true), (by rfl), H', ⟨by have := HJ1.out; omega⟩, ⟨by (with_reducible skip); exact Kd.R_mono HO677.out (fun _ hk => ⟨hk.2, hk.1⟩)⟩, ⟨by (with_reducible skip); exact Kd.R_mono HO680.out (fun _ hk => ⟨hk.2, hk.1⟩)⟩, ⟨by (with_reducible skip); exact HO671.out⟩, ⟨by (with_reducible skip); exact HO674.out⟩, ⟨by (with_reducible skip); exact BK682.out⟩, ⟨Z.bs HB.out GE682.out⟩⟩
    ·rw [if_neg c15] at H
     have c15b0 := decide_eq_false c15
     clear c15
     replace H := Option.bind_eq_some_iff.mp H
     obtain ⟨t684, A160, H⟩ := H
     have A16 := Z.k A160
     clear A160
     have H' := Z.k H
     clear H
     have hcz17 := Z.c3 BK682.out
     go_wp2_with ((go_at_call 29; (with_reducible refine (spec_StateOk.calls kj1 t668 _ _ t669 _ _ t672 _ _ t675 t684 _ ?q1 ?q2 ?q3 ?q4 ?q5 ?q6 A16.out).mono ?_); (case q1 => repeat (exact (Kd.R_reads' HO671.out).2.2)); (case q2 => exact (Kd.R_reads' HO671.out).2.1); (case q3 => repeat (exact (Kd.R_reads' HO674.out).2.2)); (case q4 => exact (Kd.R_reads' HO674.out).2.1); (case q5 => repeat (exact (Kd.R_reads' HO677.out).2.2)); (case q6 => exact (Kd.R_reads' HO677.out).2.1); rintro e w18 ⟨rfl, hb⟩; replace HO671 := Z.k (Kd.R_below (by (with_reducible skip); exact HO671.out) hb); replace HO674 := Z.k (Kd.R_below (by (with_reducible skip); exact HO674.out) hb); replace HO677 := Z.k (Kd.R_below (by (with_reducible skip); exact HO677.out) hb); replace HO680 := Z.k (Kd.R_below (by (with_reducible skip); exact HO680.out) hb); replace BK682 := Z.bb BK682 hb; replace HB := Z.st (Z.bs HB.out GE682.out) hb; (try clear hb)))
     go_meet
     case rel => exact ⟨_, (!t684), (by rfl), H', ⟨by have := HJ1.out; omega⟩, ⟨by (with_reducible skip); exact Kd.R_mono HO677.out (fun _ hk => ⟨hk.2, hk.1⟩)⟩, ⟨by (with_reducible skip); exact Kd.R_mono HO680.out (fun _ hk => ⟨hk.2, hk.1⟩)⟩, ⟨by (with_reducible skip); exact HO671.out⟩, ⟨by (with_reducible skip); exact HO674.out⟩, ⟨by (with_reducible skip); exact BK682.out⟩, ⟨Z.bs HB.out GE682.out⟩⟩
   case rest =>
    clear HC6
    obtain ⟨kq, x34_5, rfl, HA, HJ5, HO_4, HO_5, HO_683001, HO_683002, BK682, HB⟩ := hcut
    cases kq with
    | zero => exact absurd HA.out (by simp [laws_FnActsSuffice.j1])
    | succ kj5 =>
     have H := HA.out
     clear HA
     simp only [laws_FnActsSuffice.j1] at H
     have HC19 := Z.k H
     clear H
     go_upto_if 34 with (fail)
     go_cut [] (fun wc => ∃ (kq : Nat), Aside0 (laws_FnActsSuffice.j2 kq t675 t678 t681 t683 t668 t669 t672 = some r) ∧ Aside0 (kq ≤ kj5) ∧ Aside0 (Kd.R (Kd.int .i64) 3 wc w.heap.size (fun k_ => some k_ ≠ ((.slice Ao13 t678.length co13) : Value).ownBlock ∧ some k_ ≠ ((.slice Ao10 t669.length co10) : Value).ownBlock) (.slice Ao12 t675.length co12) t675) ∧ Aside0 (Kd.R (Kd.int .i64) 3 wc w.heap.size (fun k_ => some k_ ≠ ((.slice Ao12 t675.length co12) : Value).ownBlock ∧ some k_ ≠ ((.slice Ao10 t669.length co10) : Value).ownBlock) (.slice Ao13 t678.length co13) t678) ∧ Aside0 (Kd.R (Kd.int .i64) 3 wc w.heap.size (fun k_ => some k_ ≠ ((.slice Ao12 t675.length co12) : Value).ownBlock ∧ some k_ ≠ ((.slice Ao13 t678.length co13) : Value).ownBlock) (.slice Ao10 t669.length co10) t669) ∧ Aside0 (Kd.R (Kd.slice 91 k91) 56 wc w.heap.size (fun _ => True) (.slice Ao11 t672.length co11) t672) ∧ Aside0 (wc.heap[gb682]? = some (.cells #[.int .i64 t668, (.slice Ao10 t669.length co10), (.slice Ao11 t672.length co11)] 46 (0, 0))) ∧ Aside0 (Below w.heap.size w wc))
     case first =>
      have H := HC19.out
      clear HC19
      by_cases c20 : x34_5 = true
      ·subst c20
       rw [if_pos rfl] at H
       by_cases c21 : t683 ≥ (-1)
       ·rw [if_pos c21] at H
        have c21b0 : decide ((-1) ≤ t683) = true := decide_eq_true c21
        clear c21
        replace H := Option.bind_eq_some_iff.mp H
        obtain ⟨t685, A220, H⟩ := H
        have A22 := Z.k A220
        clear A220
        obtain rfl := Option.some.inj H
        go_wp2_with ((go_at_call 15; (with_reducible refine (laws_alive.calls  t685 _ A22.out).mono ?_); rintro e w' ⟨rfl, ⟨nd, rfl⟩⟩))
        go_ret
        exact ⟨by rfl, Z.bs HB.out GE682.out⟩
       ·rw [if_neg c21] at H
        have c21b0 : decide ((-1) ≤ t683) = false := decide_eq_false c21
        clear c21
        obtain rfl := Option.some.inj H
        go_wp2
        go_ret
        exact ⟨by rfl, Z.bs HB.out GE682.out⟩
      ·replace c20 := Bool.eq_false_iff.mpr c20
       subst c20
       rw [if_neg (show ¬ (false = true) by decide)] at H
       have H' := Z.k H
       clear H
       go_wp2
       go_meet
       case rel => exact ⟨_, H', ⟨by have := HJ1.out; have := HJ5.out; omega⟩, ⟨by (with_reducible skip); exact HO_4.out⟩, ⟨by (with_reducible skip); exact HO_5.out⟩, ⟨by (with_reducible skip); exact HO_683001.out⟩, ⟨by (with_reducible skip); exact HO_683002.out⟩, ⟨by (with_reducible skip); exact BK682.out⟩, ⟨Z.bs HB.out GE682.out⟩⟩
     case rest =>
      clear HC19
      obtain ⟨kq, HA, HJ18, HO_4, HO_5, HO_683001, HO_683002, BK682, HB⟩ := hcut
      cases kq with
      | zero => exact absurd HA.out (by simp [laws_FnActsSuffice.j2])
      | succ kj18 =>
       have H := HA.out
       clear HA
       simp only [laws_FnActsSuffice.j2] at H
       have H' := Z.k H
       clear H
       go_wp2
       go_loopg [8] kj18 (fun kq v8 w' => ∃ (x8_4 : Int), v8 = .int .i64 x8_4 ∧ Aside0 (laws_FnActsSuffice.l0 kq t675 t678 t681 t683 x8_4 t668 t669 t672 = some r) ∧ Aside0 (kq ≤ kj18) ∧ Aside0 (Kd.R (Kd.int .i64) 3 w' w.heap.size (fun k_ => some k_ ≠ ((.slice Ao13 t678.length co13) : Value).ownBlock ∧ some k_ ≠ ((.slice Ao10 t669.length co10) : Value).ownBlock) (.slice Ao12 t675.length co12) t675) ∧ Aside0 (Kd.R (Kd.int .i64) 3 w' w.heap.size (fun k_ => some k_ ≠ ((.slice Ao12 t675.length co12) : Value).ownBlock ∧ some k_ ≠ ((.slice Ao10 t669.length co10) : Value).ownBlock) (.slice Ao13 t678.length co13) t678) ∧ Aside0 (Kd.R (Kd.int .i64) 3 w' w.heap.size (fun k_ => some k_ ≠ ((.slice Ao12 t675.length co12) : Value).ownBlock ∧ some k_ ≠ ((.slice Ao13 t678.length co13) : Value).ownBlock) (.slice Ao10 t669.length co10) t669) ∧ Aside0 (Kd.R (Kd.slice 91 k91) 56 w' w.heap.size (fun _ => True) (.slice Ao11 t672.length co11) t672) ∧ Aside0 (w'.heap[gb682]? = some (.cells #[.int .i64 t668, (.slice Ao10 t669.length co10), (.slice Ao11 t672.length co11)] 46 (0, 0))) ∧ Aside0 (Below w.heap.size w w'))
       case atStart => exact ⟨(0), (by rfl), H', ⟨Nat.le_refl _⟩, ⟨by (with_reducible skip); exact HO_4.out⟩, ⟨by (with_reducible skip); exact HO_5.out⟩, ⟨by (with_reducible skip); exact HO_683001.out⟩, ⟨by (with_reducible skip); exact HO_683002.out⟩, ⟨by (with_reducible skip); exact BK682.out⟩, ⟨Z.bs HB.out GE682.out⟩⟩
       case round =>
        clear H'
        obtain ⟨x8_4, rfl, HA, HK4, HO_4, HO_5, HO_683001, HO_683002, BK682, HB⟩ := hrel
        cases gk with
        | zero => exact absurd HA.out (by simp [laws_FnActsSuffice.l0])
        | succ k4 =>
         have H := HA.out
         clear HA
         simp only [laws_FnActsSuffice.l0] at H
         have HC23 := Z.k H
         clear H
         have hcz24 := Z.c3 BK682.out
         go_upto_if 44 with (fail)
         go_cut [] (fun wc => ∃ (kq : Nat), Aside0 (laws_FnActsSuffice.j4 kq t675 t678 t681 t683 x8_4 t668 t669 t672 = some r) ∧ Aside0 (kq ≤ k4) ∧ Aside0 (Kd.R (Kd.int .i64) 3 wc w.heap.size (fun k_ => some k_ ≠ ((.slice Ao13 t678.length co13) : Value).ownBlock ∧ some k_ ≠ ((.slice Ao10 t669.length co10) : Value).ownBlock) (.slice Ao12 t675.length co12) t675) ∧ Aside0 (Kd.R (Kd.int .i64) 3 wc w.heap.size (fun k_ => some k_ ≠ ((.slice Ao12 t675.length co12) : Value).ownBlock ∧ some k_ ≠ ((.slice Ao10 t669.length co10) : Value).ownBlock) (.slice Ao13 t678.length co13) t678) ∧ Aside0 (Kd.R (Kd.int .i64) 3 wc w.heap.size (fun k_ => some k_ ≠ ((.slice Ao12 t675.length co12) : Value).ownBlock ∧ some k_ ≠ ((.slice Ao13 t678.length co13) : Value).ownBlock) (.slice Ao10 t669.length co10) t669) ∧ Aside0 (Kd.R (Kd.slice 91 k91) 56 wc w.heap.size (fun _ => True) (.slice Ao11 t672.length co11) t672) ∧ Aside0 (wc.heap[gb682]? = some (.cells #[.int .i64 t668, (.slice Ao10 t669.length co10), (.slice Ao11 t672.length co11)] 46 (0, 0))) ∧ Aside0 (Below w.heap.size w wc))
         case first =>
          have H := HC23.out
          clear HC23
          by_cases c25 : x8_4 < (t672.length : Int)
          ·rw [if_pos c25] at H
           have c25b0 := decide_eq_true c25
           clear c25
           (rw [c25b0])
           have H' := Z.k H
           clear H
           go_wp2
           go_meet
           case rel => exact ⟨_, H', ⟨by have := HJ1.out; have := HJ5.out; have := HJ18.out; have := HK4.out; omega⟩, ⟨by (with_reducible skip); exact HO_4.out⟩, ⟨by (with_reducible skip); exact HO_5.out⟩, ⟨by (with_reducible skip); exact HO_683001.out⟩, ⟨by (with_reducible skip); exact HO_683002.out⟩, ⟨by (with_reducible skip); exact BK682.out⟩, ⟨Z.bs HB.out GE682.out⟩⟩
          ·rw [if_neg c25] at H
           have c25b0 := decide_eq_false c25
           clear c25
           (rw [c25b0])
           replace H := Option.bind_eq_some_iff.mp H
           obtain ⟨t686, A260, H⟩ := H
           have A26 := Z.k A260
           clear A260
           by_cases c27 : t686 = true
           ·subst c27
            rw [if_pos rfl] at H
            obtain rfl := Option.some.inj H
            go_wp2_with (((with_reducible refine gate_callee (f := 15) rfl ?_); refine goesL_ (some 88) rfl rfl Try.func15 (by kernel_rfl) rfl #[] rfl Z.ar ?_; (with_reducible refine (laws_alive.calls  true _ A26.out).mono ?_); rintro e w' ⟨rfl, ⟨nd, rfl⟩⟩; refine ⟨_, rfl, ?_⟩))
            go_ret
            exact ⟨by rfl, Z.bs HB.out GE682.out⟩
           ·replace c27 := Bool.eq_false_iff.mpr c27
            subst c27
            rw [if_neg (show ¬ (false = true) by decide)] at H
            obtain rfl := Option.some.inj H
            go_wp2_with (((with_reducible refine gate_callee (f := 15) rfl ?_); refine goesL_ (some 88) rfl rfl Try.func15 (by kernel_rfl) rfl #[] rfl Z.ar ?_; (with_reducible refine (laws_alive.calls  false _ A26.out).mono ?_); rintro e w' ⟨rfl, ⟨nd, rfl⟩⟩; refine ⟨_, rfl, ?_⟩))
            go_ret
            exact ⟨by rfl, Z.bs HB.out GE682.out⟩
         case rest =>
          clear HC23
          obtain ⟨kq, HA, HJ22, HO_4, HO_5, HO_683001, HO_683002, BK682, HB⟩ := hcut
          cases kq with
          | zero => exact absurd HA.out (by simp [laws_FnActsSuffice.j4])
          | succ kj22 =>
           have H := HA.out
           clear HA
           simp only [laws_FnActsSuffice.j4] at H
           have H' := Z.k H
           clear H
           go_wp2
           go_loopg [9] kj22 (fun kq v9 w' => ∃ (x9_6 : Int), v9 = .int .i64 x9_6 ∧ Aside0 (laws_FnActsSuffice.l1 kq t675 t678 t681 t683 x8_4 x9_6 t668 t669 t672 = some r) ∧ Aside0 (kq ≤ kj22) ∧ Aside0 (Kd.R (Kd.int .i64) 3 w' w.heap.size (fun k_ => some k_ ≠ ((.slice Ao13 t678.length co13) : Value).ownBlock ∧ some k_ ≠ ((.slice Ao10 t669.length co10) : Value).ownBlock) (.slice Ao12 t675.length co12) t675) ∧ Aside0 (Kd.R (Kd.int .i64) 3 w' w.heap.size (fun k_ => some k_ ≠ ((.slice Ao12 t675.length co12) : Value).ownBlock ∧ some k_ ≠ ((.slice Ao10 t669.length co10) : Value).ownBlock) (.slice Ao13 t678.length co13) t678) ∧ Aside0 (Kd.R (Kd.int .i64) 3 w' w.heap.size (fun k_ => some k_ ≠ ((.slice Ao12 t675.length co12) : Value).ownBlock ∧ some k_ ≠ ((.slice Ao13 t678.length co13) : Value).ownBlock) (.slice Ao10 t669.length co10) t669) ∧ Aside0 (Kd.R (Kd.slice 91 k91) 56 w' w.heap.size (fun _ => True) (.slice Ao11 t672.length co11) t672) ∧ Aside0 (w'.heap[gb682]? = some (.cells #[.int .i64 t668, (.slice Ao10 t669.length co10), (.slice Ao11 t672.length co11)] 46 (0, 0))) ∧ Aside0 (Below w.heap.size w w'))
           case atStart => exact ⟨(0), (by rfl), H', ⟨Nat.le_refl _⟩, ⟨by (with_reducible skip); exact HO_4.out⟩, ⟨by (with_reducible skip); exact HO_5.out⟩, ⟨by (with_reducible skip); exact HO_683001.out⟩, ⟨by (with_reducible skip); exact HO_683002.out⟩, ⟨by (with_reducible skip); exact BK682.out⟩, ⟨Z.bs HB.out GE682.out⟩⟩
           case round =>
            clear H'
            obtain ⟨x9_6, rfl, HA, HK6, HO_4, HO_5, HO_683001, HO_683002, BK682, HB⟩ := hrel
            cases gk with
            | zero => exact absurd HA.out (by simp [laws_FnActsSuffice.l1])
            | succ k6 =>
             have H := HA.out
             clear HA
             simp only [laws_FnActsSuffice.l1] at H
             obtain ⟨c28, H⟩ := Z.ifp H
             have c28b0 : decide (0 ≤ x8_4) = true := decide_eq_true c28
             clear c28
             obtain ⟨c29, H⟩ := Z.ifp H
             have c29b0 : decide (x8_4 < (t672.length : Int)) = true := decide_eq_true c29
             clear c29
             have HC30 := Z.k H
             clear H
             have hcz31 := Z.c3 BK682.out
             have p687 : 0 ≤ (x8_4 : Int) := Z.od
             have q687 : x8_4 < (t672.length : Int) := Z.od
             obtain ⟨ad687, A687_0, c687_0, e687, hx687_0, hl687_0, hi687_0⟩ := at_L5 (Kd.R_reads' HO_683002.out).2.2 x8_4 p687 q687
             cases e687
             obtain ⟨ce687, hce687, hMe687, hcc687⟩ := Kd.R_get HO_683002.out [] x8_4 p687 (by exact q687)
             obtain ⟨ve687_0, rfl, ge687_0⟩ := hMe687
             have hv687_0 := hcc687 0 _ rfl
             rw [Nat.add_zero, show ((Kd.slice 91 k91)).sz = 1 from rfl, Nat.mul_one] at hv687_0
             replace hv687_0 := Option.some.inj (hv687_0.symm.trans hx687_0)
             rw [hv687_0] at ge687_0
             have HL687_0 := Z.k (show Kd.R k91 91 _ _ _ _ (rd_L5 t672 x8_4) from ge687_0)
             clear hv687_0 ge687_0
             clear hcc687 hce687
             have HR687_0 := Z.k hi687_0
             have HC687_0 := Z.k hl687_0
             clear hi687_0 hl687_0
             replace p687 := eq_true p687
             replace q687 := eq_true q687
             go_upto_if 54 with (fail)
             go_cut [] (fun wc => ∃ (kq : Nat), Aside0 (laws_FnActsSuffice.j6 kq t675 t678 t681 t683 x8_4 x9_6 t668 t669 t672 = some r) ∧ Aside0 (kq ≤ k6) ∧ Aside0 (Kd.R (Kd.int .i64) 3 wc w.heap.size (fun k_ => some k_ ≠ ((.slice Ao13 t678.length co13) : Value).ownBlock ∧ some k_ ≠ ((.slice Ao10 t669.length co10) : Value).ownBlock) (.slice Ao12 t675.length co12) t675) ∧ Aside0 (Kd.R (Kd.int .i64) 3 wc w.heap.size (fun k_ => some k_ ≠ ((.slice Ao12 t675.length co12) : Value).ownBlock ∧ some k_ ≠ ((.slice Ao10 t669.length co10) : Value).ownBlock) (.slice Ao13 t678.length co13) t678) ∧ Aside0 (Kd.R (Kd.int .i64) 3 wc w.heap.size (fun k_ => some k_ ≠ ((.slice Ao12 t675.length co12) : Value).ownBlock ∧ some k_ ≠ ((.slice Ao13 t678.length co13) : Value).ownBlock) (.slice Ao10 t669.length co10) t669) ∧ Aside0 (Kd.R (Kd.slice 91 k91) 56 wc w.heap.size (fun _ => True) (.slice (some ad687) t672.length co11) t672) ∧ Aside0 (wc.heap[gb682]? = some (.cells #[.int .i64 t668, (.slice Ao10 t669.length co10), (.slice (some ad687) t672.length co11)] 46 (0, 0))) ∧ Aside0 (Kd.C k91 wc A687_0 (rd_L5 t672 x8_4).length (rd_L5 t672 x8_4)) ∧ Aside0 (Below w.heap.size w wc))
             case first =>
              have H := HC30.out
              clear HC30
              by_cases c32 : x9_6 < ((rd_L5 t672 x8_4).length : Int)
              ·rw [if_pos c32] at H
               have c32b0 := decide_eq_true c32
               clear c32
               (rw [c32b0])
               have H' := Z.k H
               clear H
               go_wp2
               go_meet
               case rel => exact ⟨_, H', ⟨by have := HJ1.out; have := HJ5.out; have := HJ18.out; have := HK4.out; have := HJ22.out; have := HK6.out; omega⟩, ⟨by (with_reducible skip); exact HO_4.out⟩, ⟨by (with_reducible skip); exact HO_5.out⟩, ⟨by (with_reducible skip); exact HO_683001.out⟩, ⟨by (with_reducible skip); exact HO_683002.out⟩, ⟨by (with_reducible skip); exact BK682.out⟩, ⟨by repeat ((with_reducible exact HR687_0.out))⟩, ⟨Z.bs HB.out GE682.out⟩⟩
              ·rw [if_neg c32] at H
               have c32b0 := decide_eq_false c32
               clear c32
               (rw [c32b0])
               have H' := Z.k H
               clear H
               go_wp2
               go_roundg k6
               case measure => have := HJ1.out; have := HJ5.out; have := HJ18.out; have := HK4.out; have := HJ22.out; have := HK6.out; omega
               case rel => exact ⟨(wrap64 (x8_4 + 1)), (by rfl), H', ⟨by have := HJ1.out; have := HJ5.out; have := HJ18.out; have := HK4.out; have := HJ22.out; have := HK6.out; omega⟩, ⟨by (with_reducible skip); exact HO_4.out⟩, ⟨by (with_reducible skip); exact HO_5.out⟩, ⟨by (with_reducible skip); exact HO_683001.out⟩, ⟨by (with_reducible skip); exact HO_683002.out⟩, ⟨by (with_reducible skip); exact BK682.out⟩, ⟨Z.bs HB.out GE682.out⟩⟩
             case rest =>
              clear HC30
              try clear c28b0
              try clear c29b0
              try clear hx687_0
              try clear p687
              try clear q687
              obtain ⟨kq, HA, HJ29, HO_4, HO_5, HO_683001, HO_683002, BK682, HR687_0, HB⟩ := hcut
              cases kq with
              | zero => exact absurd HA.out (by simp [laws_FnActsSuffice.j6])
              | succ kj29 =>
               have H := HA.out
               clear HA
               simp only [laws_FnActsSuffice.j6] at H
               obtain ⟨y688, hy688⟩ : ∃ y_ : List (S48), y_ = (([(⟨x8_4, x9_6, t681⟩ : S48)] : List (S48))) := ⟨_, rfl⟩
               replace H : ((impl_AfterActs.f kj29 t668 t669 t672 t675 y688).bind fun bt691 => (if bt691.2 = 1 then ((impl_MayChange.f kj29 t668 t669 t672 t675 x8_4 x9_6 t681).bind fun t695 => (if t695 = true then ((impl_ChangesTo.f kj29 t668 t669 t672 bt691.1 t678 t681).bind fun t696 => (if t696 = (wrap64 (t683 - 1)) then (some true) else (laws_FnActsSuffice.l1 kj29 t675 t678 t681 t683 x8_4 (wrap64 (x9_6 + 1)) t668 t669 t672))) else (laws_FnActsSuffice.l1 kj29 t675 t678 t681 t683 x8_4 (wrap64 (x9_6 + 1)) t668 t669 t672))) else (laws_FnActsSuffice.l1 kj29 t675 t678 t681 t683 x8_4 (wrap64 (x9_6 + 1)) t668 t669 t672))) = some r := by (rw [hy688]; with_reducible exact H)
               have Ny688 := Z.k hy688
               clear hy688
               replace H := Option.bind_eq_some_iff.mp H
               obtain ⟨⟨t691, t694⟩, A330, H⟩ := H
               try dsimp only at H
               have A33 := Z.k A330
               clear A330
               by_cases c34 : t694 = 1
               ·rw [if_pos c34] at H
                have c34b0 : (t694 == 1) = true := beq_iff_eq.mpr c34
                have c34b1 : (t694 != 1) = false := bne_eq_false_iff_eq.mpr c34
                clear c34
                replace H := Option.bind_eq_some_iff.mp H
                obtain ⟨t695, A350, H⟩ := H
                have A35 := Z.k A350
                clear A350
                by_cases c36 : t695 = true
                ·subst c36
                 rw [if_pos rfl] at H
                 replace H := Option.bind_eq_some_iff.mp H
                 obtain ⟨t696, A370, H⟩ := H
                 have A37 := Z.k A370
                 clear A370
                 by_cases c38 : t696 = (wrap64 (t683 - 1))
                 ·rw [if_pos c38] at H
                  have c38b0 : (t696 == (wrap64 (t683 - 1))) = true := beq_iff_eq.mpr c38
                  have c38b1 : (t696 != (wrap64 (t683 - 1))) = false := bne_eq_false_iff_eq.mpr c38
                  clear c38
                  obtain rfl := Option.some.inj H
                  have hcz39 := Z.c3 BK682.out
                  go_wp2_with (first | ((with_reducible refine gate_dst (N := 64) rfl ?_); refine Kd.R_lit k48 _ 48 ?hg (N := 64) ?hd (xs := ([(⟨x8_4, x9_6, t681⟩ : S48)] : List (S48))) (inner := [.int .i64 x8_4, .int .i64 x9_6, .int .i64 t681]) (ok := fun _ => True) (okp := fun _ => True) ?hr ?hp (fun _ hk => hk) trivial (Below.refl _ _) (Nat.le_refl _) (by simp) ?_; (case hd | hg => rfl); (case hr => (go_simp; done)); (case hp => exact (Reps.c3 (show Kd.M k48 _ _ _ (⟨x8_4, x9_6, t681⟩ : S48) [.int .i64 x8_4, .int .i64 x9_6, .int .i64 t681] from (k48_mkM _ _ _ (⟨x8_4, x9_6, t681⟩ : S48) )) (Reps.none _ _))); intro v689 w40 ho41 hb hg_ hnew_; clear hg_ hnew_; (rw [← Ny688.out] at ho41); replace HO_4 := Z.k (Kd.R_below (by (with_reducible skip); exact HO_4.out) hb); replace HO_5 := Z.k (Kd.R_below (by (with_reducible skip); exact HO_5.out) hb); replace HO_683001 := Z.k (Kd.R_below (by (with_reducible skip); exact HO_683001.out) hb); replace HO_683002 := Z.k (Kd.R_below (by (with_reducible skip); exact HO_683002.out) hb); have HO690 := Z.k (Kd.R_lower ho41 (below_size (Z.bs HB.out GE682.out))); replace BK682 := Z.bb BK682 hb; replace HR687_0 := Z.k (Kd.C_below (by repeat ((with_reducible exact HR687_0.out))) hb); replace HB := Z.st (Z.bs HB.out GE682.out) hb; clear hb ho41; obtain ⟨Ao42, co42, eo42⟩ := Kd.R_slice HO690.out; subst eo42) | ((with_reducible refine gate_callee (f := 30) rfl ?_); refine goesL_ (some 65) rfl rfl Try.func30 (by kernel_rfl) rfl #[.agg #[.int .i64 t668, .slice Ao10 t669.length co10, .slice (some ad687) t672.length co11], .slice Ao12 t675.length co12, .slice Ao42 y688.length co42] rfl Z.ar ?_; (with_reducible refine (impl_AfterActs.calls kj29 t668 _ _ t669 _ _ t672 _ _ t675 _ _ y688 t691 t694 _ ?q1 ?q2 ?q3 ?q4 ?q5 ?q6 ?q7 ?q8 A33.out).mono ?_); (case q1 => repeat (exact (Kd.R_reads' HO_683001.out).2.2)); (case q2 => exact (Kd.R_reads' HO_683001.out).2.1); (case q3 => repeat (exact (Kd.R_reads' HO_683002.out).2.2)); (case q4 => exact (Kd.R_reads' HO_683002.out).2.1); (case q5 => repeat (exact (Kd.R_reads' HO_4.out).2.2)); (case q6 => exact (Kd.R_reads' HO_4.out).2.1); (case q7 => repeat (exact (Kd.R_reads' HO690.out).2.2)); (case q8 => exact (Kd.R_reads' HO690.out).2.1); rintro e w43 ⟨v692, rfl, ho0, hb⟩; refine ⟨_, rfl, ?_⟩; replace HO_683002 := Z.k (Kd.R_below (by (with_reducible skip); exact HO_683002.out) hb); replace HO690 := Z.k (Kd.R_below (by (with_reducible skip); exact HO690.out) hb); have HO693 := Z.k (Kd.R_lower (Kd.R_new' (Kd.R_new' (Kd.R_new' ho0 (Kd.R_lt (by (with_reducible skip); exact HO_4.out))) (Kd.R_lt (by (with_reducible skip); exact HO_5.out))) (Kd.R_lt (by (with_reducible skip); exact HO_683001.out))) (below_size (Z.bs HB.out GE682.out))); replace HO_4 := Z.k (Kd.R_elder' (by (with_reducible skip); exact HO_4.out) (Kd.R_base ho0) hb); replace HO_5 := Z.k (Kd.R_elder' (by (with_reducible skip); exact HO_5.out) (Kd.R_base ho0) hb); replace HO_683001 := Z.k (Kd.R_elder' (by (with_reducible skip); exact HO_683001.out) (Kd.R_base ho0) hb); replace BK682 := Z.bb BK682 hb; replace HR687_0 := Z.k (Kd.C_below (by repeat ((with_reducible exact HR687_0.out))) hb); replace HB := Z.st (Z.bs HB.out GE682.out) hb; (try clear hb); (try clear ho0); have hcz44 := Z.c3 BK682.out) | (go_at_call 31; (with_reducible refine (impl_MayChange.calls kj29 t668 _ _ t669 _ _ t672 _ _ t675 x8_4 x9_6 t681 true _ ?q1 ?q2 ?q3 ?q4 ?q5 ?q6 A35.out).mono ?_); (case q1 => repeat (exact (Kd.R_reads' HO_683001.out).2.2)); (case q2 => exact (Kd.R_reads' HO_683001.out).2.1); (case q3 => repeat (exact (Kd.R_reads' HO_683002.out).2.2)); (case q4 => exact (Kd.R_reads' HO_683002.out).2.1); (case q5 => repeat (exact (Kd.R_reads' HO_4.out).2.2)); (case q6 => exact (Kd.R_reads' HO_4.out).2.1); rintro e w45 ⟨rfl, hb⟩; replace HO_4 := Z.k (Kd.R_below (by (with_reducible skip); exact HO_4.out) hb); replace HO_5 := Z.k (Kd.R_below (by (with_reducible skip); exact HO_5.out) hb); replace HO_683001 := Z.k (Kd.R_below (by (with_reducible skip); exact HO_683001.out) hb); replace HO_683002 := Z.k (Kd.R_below (by (with_reducible skip); exact HO_683002.out) hb); replace HO690 := Z.k (Kd.R_below (by (with_reducible skip); exact HO690.out) hb); replace HO693 := Z.k (Kd.R_below (by (with_reducible skip); exact HO693.out) hb); replace BK682 := Z.bb BK682 hb; replace HR687_0 := Z.k (Kd.C_below (by repeat ((with_reducible exact HR687_0.out))) hb); replace HB := Z.st (Z.bs HB.out GE682.out) hb; (try clear hb); have hcz46 := Z.c3 BK682.out; obtain ⟨Ao47, co47, eo47⟩ := Kd.R_slice HO693.out; subst eo47) | (go_at_call 28; (with_reducible refine (impl_ChangesTo.calls kj29 t668 _ _ t669 _ _ t672 _ _ t691 _ _ t678 t681 t696 _ ?q1 ?q2 ?q3 ?q4 ?q5 ?q6 ?q7 ?q8 A37.out).mono ?_); (case q1 => repeat (exact (Kd.R_reads' HO_683001.out).2.2)); (case q2 => exact (Kd.R_reads' HO_683001.out).2.1); (case q3 => repeat (exact (Kd.R_reads' HO_683002.out).2.2)); (case q4 => exact (Kd.R_reads' HO_683002.out).2.1); (case q5 => repeat (exact (Kd.R_reads' HO693.out).2.2)); (case q6 => exact (Kd.R_reads' HO693.out).2.1); (case q7 => repeat (exact (Kd.R_reads' HO_5.out).2.2)); (case q8 => exact (Kd.R_reads' HO_5.out).2.1); rintro e w48 ⟨rfl, hb⟩; replace HO_4 := Z.k (Kd.R_below (by (with_reducible skip); exact HO_4.out) hb); replace HO_5 := Z.k (Kd.R_below (by (with_reducible skip); exact HO_5.out) hb); replace HO_683001 := Z.k (Kd.R_below (by (with_reducible skip); exact HO_683001.out) hb); replace HO_683002 := Z.k (Kd.R_below (by (with_reducible skip); exact HO_683002.out) hb); replace HO690 := Z.k (Kd.R_below (by (with_reducible skip); exact HO690.out) hb); replace HO693 := Z.k (Kd.R_below (by (with_reducible skip); exact HO693.out) hb); replace BK682 := Z.bb BK682 hb; replace HR687_0 := Z.k (Kd.C_below (by repeat ((with_reducible exact HR687_0.out))) hb); replace HB := Z.st (Z.bs HB.out GE682.out) hb; (try clear hb)))
                  go_ret
                  exact ⟨by rfl, Z.bs HB.out GE682.out⟩
                 ·rw [if_neg c38] at H
                  have c38b0 : (t696 == (wrap64 (t683 - 1))) = false := beq_eq_false_iff_ne.mpr c38
                  have c38b1 : (t696 != (wrap64 (t683 - 1))) = true := bne_iff_ne.mpr c38
                  have H' := Z.k H
                  clear H
                  have hcz49 := Z.c3 BK682.out
                  go_wp2_with (first | ((with_reducible refine gate_dst (N := 64) rfl ?_); refine Kd.R_lit k48 _ 48 ?hg (N := 64) ?hd (xs := ([(⟨x8_4, x9_6, t681⟩ : S48)] : List (S48))) (inner := [.int .i64 x8_4, .int .i64 x9_6, .int .i64 t681]) (ok := fun _ => True) (okp := fun _ => True) ?hr ?hp (fun _ hk => hk) trivial (Below.refl _ _) (Nat.le_refl _) (by simp) ?_; (case hd | hg => rfl); (case hr => (go_simp; done)); (case hp => exact (Reps.c3 (show Kd.M k48 _ _ _ (⟨x8_4, x9_6, t681⟩ : S48) [.int .i64 x8_4, .int .i64 x9_6, .int .i64 t681] from (k48_mkM _ _ _ (⟨x8_4, x9_6, t681⟩ : S48) )) (Reps.none _ _))); intro v689 w50 ho51 hb hg_ hnew_; clear hg_ hnew_; (rw [← Ny688.out] at ho51); replace HO_4 := Z.k (Kd.R_below (by (with_reducible skip); exact HO_4.out) hb); replace HO_5 := Z.k (Kd.R_below (by (with_reducible skip); exact HO_5.out) hb); replace HO_683001 := Z.k (Kd.R_below (by (with_reducible skip); exact HO_683001.out) hb); replace HO_683002 := Z.k (Kd.R_below (by (with_reducible skip); exact HO_683002.out) hb); have HO690 := Z.k (Kd.R_lower ho51 (below_size (Z.bs HB.out GE682.out))); replace BK682 := Z.bb BK682 hb; replace HR687_0 := Z.k (Kd.C_below (by repeat ((with_reducible exact HR687_0.out))) hb); replace HB := Z.st (Z.bs HB.out GE682.out) hb; clear hb ho51; obtain ⟨Ao52, co52, eo52⟩ := Kd.R_slice HO690.out; subst eo52) | ((with_reducible refine gate_callee (f := 30) rfl ?_); refine goesL_ (some 65) rfl rfl Try.func30 (by kernel_rfl) rfl #[.agg #[.int .i64 t668, .slice Ao10 t669.length co10, .slice (some ad687) t672.length co11], .slice Ao12 t675.length co12, .slice Ao52 y688.length co52] rfl Z.ar ?_; (with_reducible refine (impl_AfterActs.calls kj29 t668 _ _ t669 _ _ t672 _ _ t675 _ _ y688 t691 t694 _ ?q1 ?q2 ?q3 ?q4 ?q5 ?q6 ?q7 ?q8 A33.out).mono ?_); (case q1 => repeat (exact (Kd.R_reads' HO_683001.out).2.2)); (case q2 => exact (Kd.R_reads' HO_683001.out).2.1); (case q3 => repeat (exact (Kd.R_reads' HO_683002.out).2.2)); (case q4 => exact (Kd.R_reads' HO_683002.out).2.1); (case q5 => repeat (exact (Kd.R_reads' HO_4.out).2.2)); (case q6 => exact (Kd.R_reads' HO_4.out).2.1); (case q7 => repeat (exact (Kd.R_reads' HO690.out).2.2)); (case q8 => exact (Kd.R_reads' HO690.out).2.1); rintro e w53 ⟨v692, rfl, ho0, hb⟩; refine ⟨_, rfl, ?_⟩; replace HO_683002 := Z.k (Kd.R_below (by (with_reducible skip); exact HO_683002.out) hb); replace HO690 := Z.k (Kd.R_below (by (with_reducible skip); exact HO690.out) hb); have HO693 := Z.k (Kd.R_lower (Kd.R_new' (Kd.R_new' (Kd.R_new' ho0 (Kd.R_lt (by (with_reducible skip); exact HO_4.out))) (Kd.R_lt (by (with_reducible skip); exact HO_5.out))) (Kd.R_lt (by (with_reducible skip); exact HO_683001.out))) (below_size (Z.bs HB.out GE682.out))); replace HO_4 := Z.k (Kd.R_elder' (by (with_reducible skip); exact HO_4.out) (Kd.R_base ho0) hb); replace HO_5 := Z.k (Kd.R_elder' (by (with_reducible skip); exact HO_5.out) (Kd.R_base ho0) hb); replace HO_683001 := Z.k (Kd.R_elder' (by (with_reducible skip); exact HO_683001.out) (Kd.R_base ho0) hb); replace BK682 := Z.bb BK682 hb; replace HR687_0 := Z.k (Kd.C_below (by repeat ((with_reducible exact HR687_0.out))) hb); replace HB := Z.st (Z.bs HB.out GE682.out) hb; (try clear hb); (try clear ho0); have hcz54 := Z.c3 BK682.out) | (go_at_call 31; (with_reducible refine (impl_MayChange.calls kj29 t668 _ _ t669 _ _ t672 _ _ t675 x8_4 x9_6 t681 true _ ?q1 ?q2 ?q3 ?q4 ?q5 ?q6 A35.out).mono ?_); (case q1 => repeat (exact (Kd.R_reads' HO_683001.out).2.2)); (case q2 => exact (Kd.R_reads' HO_683001.out).2.1); (case q3 => repeat (exact (Kd.R_reads' HO_683002.out).2.2)); (case q4 => exact (Kd.R_reads' HO_683002.out).2.1); (case q5 => repeat (exact (Kd.R_reads' HO_4.out).2.2)); (case q6 => exact (Kd.R_reads' HO_4.out).2.1); rintro e w55 ⟨rfl, hb⟩; replace HO_4 := Z.k (Kd.R_below (by (with_reducible skip); exact HO_4.out) hb); replace HO_5 := Z.k (Kd.R_below (by (with_reducible skip); exact HO_5.out) hb); replace HO_683001 := Z.k (Kd.R_below (by (with_reducible skip); exact HO_683001.out) hb); replace HO_683002 := Z.k (Kd.R_below (by (with_reducible skip); exact HO_683002.out) hb); replace HO690 := Z.k (Kd.R_below (by (with_reducible skip); exact HO690.out) hb); replace HO693 := Z.k (Kd.R_below (by (with_reducible skip); exact HO693.out) hb); replace BK682 := Z.bb BK682 hb; replace HR687_0 := Z.k (Kd.C_below (by repeat ((with_reducible exact HR687_0.out))) hb); replace HB := Z.st (Z.bs HB.out GE682.out) hb; (try clear hb); have hcz56 := Z.c3 BK682.out; obtain ⟨Ao57, co57, eo57⟩ := Kd.R_slice HO693.out; subst eo57) | (go_at_call 28; (with_reducible refine (impl_ChangesTo.calls kj29 t668 _ _ t669 _ _ t672 _ _ t691 _ _ t678 t681 t696 _ ?q1 ?q2 ?q3 ?q4 ?q5 ?q6 ?q7 ?q8 A37.out).mono ?_); (case q1 => repeat (exact (Kd.R_reads' HO_683001.out).2.2)); (case q2 => exact (Kd.R_reads' HO_683001.out).2.1); (case q3 => repeat (exact (Kd.R_reads' HO_683002.out).2.2)); (case q4 => exact (Kd.R_reads' HO_683002.out).2.1); (case q5 => repeat (exact (Kd.R_reads' HO693.out).2.2)); (case q6 => exact (Kd.R_reads' HO693.out).2.1); (case q7 => repeat (exact (Kd.R_reads' HO_5.out).2.2)); (case q8 => exact (Kd.R_reads' HO_5.out).2.1); rintro e w58 ⟨rfl, hb⟩; replace HO_4 := Z.k (Kd.R_below (by (with_reducible skip); exact HO_4.out) hb); replace HO_5 := Z.k (Kd.R_below (by (with_reducible skip); exact HO_5.out) hb); replace HO_683001 := Z.k (Kd.R_below (by (with_reducible skip); exact HO_683001.out) hb); replace HO_683002 := Z.k (Kd.R_below (by (with_reducible skip); exact HO_683002.out) hb); replace HO690 := Z.k (Kd.R_below (by (with_reducible skip); exact HO690.out) hb); replace HO693 := Z.k (Kd.R_below (by (with_reducible skip); exact HO693.out) hb); replace BK682 := Z.bb BK682 hb; replace HR687_0 := Z.k (Kd.C_below (by repeat ((with_reducible exact HR687_0.out))) hb); replace HB := Z.st (Z.bs HB.out GE682.out) hb; (try clear hb)))
                  go_roundg kj29
                  case measure => have := HJ1.out; have := HJ5.out; have := HJ18.out; have := HK4.out; have := HJ22.out; have := HK6.out; have := HJ29.out; omega
                  case rel => exact ⟨(wrap64 (x9_6 + 1)), (by rfl), H', ⟨by have := HJ1.out; have := HJ5.out; have := HJ18.out; have := HK4.out; have := HJ22.out; have := HK6.out; have := HJ29.out; omega⟩, ⟨by (with_reducible skip); exact Kd.R_mono HO_4.out (fun _ hk => ⟨hk.1.1, hk.1.2⟩)⟩, ⟨by (with_reducible skip); exact Kd.R_mono HO_5.out (fun _ hk => ⟨hk.1.1, hk.1.2⟩)⟩, ⟨by (with_reducible skip); exact Kd.R_mono HO_683001.out (fun _ hk => ⟨hk.1.1, hk.1.2⟩)⟩, ⟨by (with_reducible skip); exact HO_683002.out⟩, ⟨by (with_reducible skip); exact BK682.out⟩, ⟨Z.bs HB.out GE682.out⟩⟩
                ·replace c36 := Bool.eq_false_iff.mpr c36
                 subst c36
                 rw [if_neg (show ¬ (false = true) by decide)] at H
                 have H' := Z.k H
                 clear H
                 have hcz59 := Z.c3 BK682.out
                 go_wp2_with (first | ((with_reducible refine gate_dst (N := 64) rfl ?_); refine Kd.R_lit k48 _ 48 ?hg (N := 64) ?hd (xs := ([(⟨x8_4, x9_6, t681⟩ : S48)] : List (S48))) (inner := [.int .i64 x8_4, .int .i64 x9_6, .int .i64 t681]) (ok := fun _ => True) (okp := fun _ => True) ?hr ?hp (fun _ hk => hk) trivial (Below.refl _ _) (Nat.le_refl _) (by simp) ?_; (case hd | hg => rfl); (case hr => (go_simp; done)); (case hp => exact (Reps.c3 (show Kd.M k48 _ _ _ (⟨x8_4, x9_6, t681⟩ : S48) [.int .i64 x8_4, .int .i64 x9_6, .int .i64 t681] from (k48_mkM _ _ _ (⟨x8_4, x9_6, t681⟩ : S48) )) (Reps.none _ _))); intro v689 w60 ho61 hb hg_ hnew_; clear hg_ hnew_; (rw [← Ny688.out] at ho61); replace HO_4 := Z.k (Kd.R_below (by (with_reducible skip); exact HO_4.out) hb); replace HO_5 := Z.k (Kd.R_below (by (with_reducible skip); exact HO_5.out) hb); replace HO_683001 := Z.k (Kd.R_below (by (with_reducible skip); exact HO_683001.out) hb); replace HO_683002 := Z.k (Kd.R_below (by (with_reducible skip); exact HO_683002.out) hb); have HO690 := Z.k (Kd.R_lower ho61 (below_size (Z.bs HB.out GE682.out))); replace BK682 := Z.bb BK682 hb; replace HR687_0 := Z.k (Kd.C_below (by repeat ((with_reducible exact HR687_0.out))) hb); replace HB := Z.st (Z.bs HB.out GE682.out) hb; clear hb ho61; obtain ⟨Ao62, co62, eo62⟩ := Kd.R_slice HO690.out; subst eo62) | ((with_reducible refine gate_callee (f := 30) rfl ?_); refine goesL_ (some 65) rfl rfl Try.func30 (by kernel_rfl) rfl #[.agg #[.int .i64 t668, .slice Ao10 t669.length co10, .slice (some ad687) t672.length co11], .slice Ao12 t675.length co12, .slice Ao62 y688.length co62] rfl Z.ar ?_; (with_reducible refine (impl_AfterActs.calls kj29 t668 _ _ t669 _ _ t672 _ _ t675 _ _ y688 t691 t694 _ ?q1 ?q2 ?q3 ?q4 ?q5 ?q6 ?q7 ?q8 A33.out).mono ?_); (case q1 => repeat (exact (Kd.R_reads' HO_683001.out).2.2)); (case q2 => exact (Kd.R_reads' HO_683001.out).2.1); (case q3 => repeat (exact (Kd.R_reads' HO_683002.out).2.2)); (case q4 => exact (Kd.R_reads' HO_683002.out).2.1); (case q5 => repeat (exact (Kd.R_reads' HO_4.out).2.2)); (case q6 => exact (Kd.R_reads' HO_4.out).2.1); (case q7 => repeat (exact (Kd.R_reads' HO690.out).2.2)); (case q8 => exact (Kd.R_reads' HO690.out).2.1); rintro e w63 ⟨v692, rfl, ho0, hb⟩; refine ⟨_, rfl, ?_⟩; replace HO_683002 := Z.k (Kd.R_below (by (with_reducible skip); exact HO_683002.out) hb); replace HO690 := Z.k (Kd.R_below (by (with_reducible skip); exact HO690.out) hb); have HO693 := Z.k (Kd.R_lower (Kd.R_new' (Kd.R_new' (Kd.R_new' ho0 (Kd.R_lt (by (with_reducible skip); exact HO_4.out))) (Kd.R_lt (by (with_reducible skip); exact HO_5.out))) (Kd.R_lt (by (with_reducible skip); exact HO_683001.out))) (below_size (Z.bs HB.out GE682.out))); replace HO_4 := Z.k (Kd.R_elder' (by (with_reducible skip); exact HO_4.out) (Kd.R_base ho0) hb); replace HO_5 := Z.k (Kd.R_elder' (by (with_reducible skip); exact HO_5.out) (Kd.R_base ho0) hb); replace HO_683001 := Z.k (Kd.R_elder' (by (with_reducible skip); exact HO_683001.out) (Kd.R_base ho0) hb); replace BK682 := Z.bb BK682 hb; replace HR687_0 := Z.k (Kd.C_below (by repeat ((with_reducible exact HR687_0.out))) hb); replace HB := Z.st (Z.bs HB.out GE682.out) hb; (try clear hb); (try clear ho0); have hcz64 := Z.c3 BK682.out) | (go_at_call 31; (with_reducible refine (impl_MayChange.calls kj29 t668 _ _ t669 _ _ t672 _ _ t675 x8_4 x9_6 t681 false _ ?q1 ?q2 ?q3 ?q4 ?q5 ?q6 A35.out).mono ?_); (case q1 => repeat (exact (Kd.R_reads' HO_683001.out).2.2)); (case q2 => exact (Kd.R_reads' HO_683001.out).2.1); (case q3 => repeat (exact (Kd.R_reads' HO_683002.out).2.2)); (case q4 => exact (Kd.R_reads' HO_683002.out).2.1); (case q5 => repeat (exact (Kd.R_reads' HO_4.out).2.2)); (case q6 => exact (Kd.R_reads' HO_4.out).2.1); rintro e w65 ⟨rfl, hb⟩; replace HO_4 := Z.k (Kd.R_below (by (with_reducible skip); exact HO_4.out) hb); replace HO_5 := Z.k (Kd.R_below (by (with_reducible skip); exact HO_5.out) hb); replace HO_683001 := Z.k (Kd.R_below (by (with_reducible skip); exact HO_683001.out) hb); replace HO_683002 := Z.k (Kd.R_below (by (with_reducible skip); exact HO_683002.out) hb); replace HO690 := Z.k (Kd.R_below (by (with_reducible skip); exact HO690.out) hb); replace HO693 := Z.k (Kd.R_below (by (with_reducible skip); exact HO693.out) hb); replace BK682 := Z.bb BK682 hb; replace HR687_0 := Z.k (Kd.C_below (by repeat ((with_reducible exact HR687_0.out))) hb); replace HB := Z.st (Z.bs HB.out GE682.out) hb; (try clear hb)))
                 go_roundg kj29
                 case measure => have := HJ1.out; have := HJ5.out; have := HJ18.out; have := HK4.out; have := HJ22.out; have := HK6.out; have := HJ29.out; omega
                 case rel => exact ⟨(wrap64 (x9_6 + 1)), (by rfl), H', ⟨by have := HJ1.out; have := HJ5.out; have := HJ18.out; have := HK4.out; have := HJ22.out; have := HK6.out; have := HJ29.out; omega⟩, ⟨by (with_reducible skip); exact Kd.R_mono HO_4.out (fun _ hk => ⟨hk.1.1, hk.1.2⟩)⟩, ⟨by (with_reducible skip); exact Kd.R_mono HO_5.out (fun _ hk => ⟨hk.1.1, hk.1.2⟩)⟩, ⟨by (with_reducible skip); exact Kd.R_mono HO_683001.out (fun _ hk => ⟨hk.1.1, hk.1.2⟩)⟩, ⟨by (with_reducible skip); exact HO_683002.out⟩, ⟨by (with_reducible skip); exact BK682.out⟩, ⟨Z.bs HB.out GE682.out⟩⟩
               ·rw [if_neg c34] at H
                have c34b0 : (t694 == 1) = false := beq_eq_false_iff_ne.mpr c34
                have c34b1 : (t694 != 1) = true := bne_iff_ne.mpr c34
                have H' := Z.k H
                clear H
                have hcz66 := Z.c3 BK682.out
                go_wp2_with (first | ((with_reducible refine gate_dst (N := 64) rfl ?_); refine Kd.R_lit k48 _ 48 ?hg (N := 64) ?hd (xs := ([(⟨x8_4, x9_6, t681⟩ : S48)] : List (S48))) (inner := [.int .i64 x8_4, .int .i64 x9_6, .int .i64 t681]) (ok := fun _ => True) (okp := fun _ => True) ?hr ?hp (fun _ hk => hk) trivial (Below.refl _ _) (Nat.le_refl _) (by simp) ?_; (case hd | hg => rfl); (case hr => (go_simp; done)); (case hp => exact (Reps.c3 (show Kd.M k48 _ _ _ (⟨x8_4, x9_6, t681⟩ : S48) [.int .i64 x8_4, .int .i64 x9_6, .int .i64 t681] from (k48_mkM _ _ _ (⟨x8_4, x9_6, t681⟩ : S48) )) (Reps.none _ _))); intro v689 w67 ho68 hb hg_ hnew_; clear hg_ hnew_; (rw [← Ny688.out] at ho68); replace HO_4 := Z.k (Kd.R_below (by (with_reducible skip); exact HO_4.out) hb); replace HO_5 := Z.k (Kd.R_below (by (with_reducible skip); exact HO_5.out) hb); replace HO_683001 := Z.k (Kd.R_below (by (with_reducible skip); exact HO_683001.out) hb); replace HO_683002 := Z.k (Kd.R_below (by (with_reducible skip); exact HO_683002.out) hb); have HO690 := Z.k (Kd.R_lower ho68 (below_size (Z.bs HB.out GE682.out))); replace BK682 := Z.bb BK682 hb; replace HR687_0 := Z.k (Kd.C_below (by repeat ((with_reducible exact HR687_0.out))) hb); replace HB := Z.st (Z.bs HB.out GE682.out) hb; clear hb ho68; obtain ⟨Ao69, co69, eo69⟩ := Kd.R_slice HO690.out; subst eo69) | ((with_reducible refine gate_callee (f := 30) rfl ?_); refine goesL_ (some 65) rfl rfl Try.func30 (by kernel_rfl) rfl #[.agg #[.int .i64 t668, .slice Ao10 t669.length co10, .slice (some ad687) t672.length co11], .slice Ao12 t675.length co12, .slice Ao69 y688.length co69] rfl Z.ar ?_; (with_reducible refine (impl_AfterActs.calls kj29 t668 _ _ t669 _ _ t672 _ _ t675 _ _ y688 t691 t694 _ ?q1 ?q2 ?q3 ?q4 ?q5 ?q6 ?q7 ?q8 A33.out).mono ?_); (case q1 => repeat (exact (Kd.R_reads' HO_683001.out).2.2)); (case q2 => exact (Kd.R_reads' HO_683001.out).2.1); (case q3 => repeat (exact (Kd.R_reads' HO_683002.out).2.2)); (case q4 => exact (Kd.R_reads' HO_683002.out).2.1); (case q5 => repeat (exact (Kd.R_reads' HO_4.out).2.2)); (case q6 => exact (Kd.R_reads' HO_4.out).2.1); (case q7 => repeat (exact (Kd.R_reads' HO690.out).2.2)); (case q8 => exact (Kd.R_reads' HO690.out).2.1); rintro e w70 ⟨v692, rfl, ho0, hb⟩; refine ⟨_, rfl, ?_⟩; replace HO_683002 := Z.k (Kd.R_below (by (with_reducible skip); exact HO_683002.out) hb); replace HO690 := Z.k (Kd.R_below (by (with_reducible skip); exact HO690.out) hb); have HO693 := Z.k (Kd.R_lower (Kd.R_new' (Kd.R_new' (Kd.R_new' ho0 (Kd.R_lt (by (with_reducible skip); exact HO_4.out))) (Kd.R_lt (by (with_reducible skip); exact HO_5.out))) (Kd.R_lt (by (with_reducible skip); exact HO_683001.out))) (below_size (Z.bs HB.out GE682.out))); replace HO_4 := Z.k (Kd.R_elder' (by (with_reducible skip); exact HO_4.out) (Kd.R_base ho0) hb); replace HO_5 := Z.k (Kd.R_elder' (by (with_reducible skip); exact HO_5.out) (Kd.R_base ho0) hb); replace HO_683001 := Z.k (Kd.R_elder' (by (with_reducible skip); exact HO_683001.out) (Kd.R_base ho0) hb); replace BK682 := Z.bb BK682 hb; replace HR687_0 := Z.k (Kd.C_below (by repeat ((with_reducible exact HR687_0.out))) hb); replace HB := Z.st (Z.bs HB.out GE682.out) hb; (try clear hb); (try clear ho0)))
                go_roundg kj29
                case measure => have := HJ1.out; have := HJ5.out; have := HJ18.out; have := HK4.out; have := HJ22.out; have := HK6.out; have := HJ29.out; omega
                case rel => exact ⟨(wrap64 (x9_6 + 1)), (by rfl), H', ⟨by have := HJ1.out; have := HJ5.out; have := HJ18.out; have := HK4.out; have := HJ22.out; have := HK6.out; have := HJ29.out; omega⟩, ⟨by (with_reducible skip); exact Kd.R_mono HO_4.out (fun _ hk => ⟨hk.1.1, hk.1.2⟩)⟩, ⟨by (with_reducible skip); exact Kd.R_mono HO_5.out (fun _ hk => ⟨hk.1.1, hk.1.2⟩)⟩, ⟨by (with_reducible skip); exact Kd.R_mono HO_683001.out (fun _ hk => ⟨hk.1.1, hk.1.2⟩)⟩, ⟨by (with_reducible skip); exact HO_683002.out⟩, ⟨by (with_reducible skip); exact BK682.out⟩, ⟨Z.bs HB.out GE682.out⟩⟩
/-- THE ONE PURE STATEMENT of laws_FnActsSuffice: yours. -/
def laws_FnActsSuffice.Pure : Prop := ∀ (l0 : List Int), l0.length ≤ maxLen → l0.length * 1 ≤ 140737488351232 → (∀ x ∈ l0, (Lit.int .u8 x).wf = true) → ∃ k, laws_FnActsSuffice.f k l0 = some true
theorem laws_FnActsSuffice.walk (P : laws_FnActsSuffice.Pure) (a0 : Option Addr) (len0 cap0 : Nat) (z0 : List Int) (w : World) (w0 : (a0 = none ∧ len0 = 0 ∧ cap0 = 0 ∧ z0 = []) ∨ ∃ x, a0 = some x ∧ len0 ≤ cap0 ∧ cap0 ≤ maxLen ∧ z0.length = cap0 ∧ (∀ i, i < z0.length → w.cell? (x.add i) = some (.int .u8 (z0.getD i 0))) ∧ ∀ n ∈ z0, (Lit.int .u8 n).wf = true) (y0 : len0 * 1 ≤ 140737488351232) :
  Calls Try.prog 7 #[.slice a0 len0 cap0] w fun e w' => e = .returned (.bool true) ∧ Below w.heap.size w w' := by
 obtain ⟨l0, rfl, hr0, hm0, hw0, hc0⟩ := ReadsInt.ofRowC w0
 obtain ⟨k, h⟩ := P l0 hm0 y0 hw0
 refine (laws_FnActsSuffice.calls k _ _ l0 true w (Kd.C_of_reads (d := (0 : Int)) (h1 := fun _ => rfl) hr0) hc0 h).mono ?_
 rintro e w' ⟨rfl, hd⟩
 exact ⟨rfl, hd⟩

end Go.Proofs.Ytojoblllgddckaa.PAll

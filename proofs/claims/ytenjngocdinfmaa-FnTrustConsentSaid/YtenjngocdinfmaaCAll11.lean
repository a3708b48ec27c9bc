/- Walks of functions that All reaches, in the form of the print. -/
-- PRINTED
import Derived.Test.YtenjngocdinfmaaCAll3
import Derived.Test.YtenjngocdinfmaaCAll10
namespace Go.Proofs.Ytenjngocdinfmaa.PAll
open Go.RowKit Go.Proofs.YtenjngocdinfmaaW.PrintWords Go.Proofs.YtenjngocdinfmaaW.PrintLast Go.Proofs.YtenjngocdinfmaaW.PrintMore
attribute [local go_sem] max2_int min2_int max_two min_two max_three min_three max_four min_four
set_option linter.unusedVariables false
set_option linter.unusedSimpArgs false

/-! ### laws_FnTrustConsent: function 5 -/
mutual
def laws_FnTrustConsent.j0 : Nat → List Int → List Int → Bool → Option (Bool)
 | 0, _, _, _ => none
 | k + 1, x0, x1, x18 => if x18 = true then (some true) else ((spec_DrawSpokenFor.f k x0).bind fun bt360 => ((spec_DrawLeastConsents.f k x1).bind fun bt364 => ((impl_SpokenFor.f k bt360.1 bt360.2).bind fun t372 => (if t372 < 0 then (laws_FnTrustConsent.j1 k bt360.1 bt360.2 bt364.2.2 t372 true bt364.1 bt364.2.1) else (if bt364.1 = (bt360.1.length : Int) then ((spec_TermOk.f k bt364.1 bt364.2.1 bt364.2.2).bind fun t373 => (laws_FnTrustConsent.j1 k bt360.1 bt360.2 bt364.2.2 t372 (!t373) bt364.1 bt364.2.1)) else (laws_FnTrustConsent.j1 k bt360.1 bt360.2 bt364.2.2 t372 true bt364.1 bt364.2.1))))))
def laws_FnTrustConsent.j1 : Nat → List Int → Int → List (S35) → Int → Bool → Int → List Int → Option (Bool)
 | 0, _, _, _, _, _, _, _ => none
 | k + 1, x5, x6, x8, x9, x46, x372000, x372001 => if x46 = true then ((laws_alive.f).bind fun t374 => (some t374)) else (laws_FnTrustConsent.l0 k x5 x6 x8 x9 0 x372000 x372001)
def laws_FnTrustConsent.l0 : Nat → List Int → Int → List (S35) → Int → Int → Int → List Int → Option (Bool)
 | 0, _, _, _, _, _, _, _ => none
 | k + 1, x5, x6, x8, x9, x10, x372000, x372001 => if x10 < x372000 then ((impl_ConsentOk.f k x372000 x372001 x8 x9).bind fun t376 => (if t376 = true then (if 0 ≤ x10 then ((impl_SpokenFor.f k x5 (Go.bits .or .i64 x6 (shl .i64 1 x10))).bind fun t377 => ((impl_ConsentOk.f k x372000 x372001 x8 t377).bind fun t378 => (if t378 = true then (laws_FnTrustConsent.l0 k x5 x6 x8 x9 (wrap64 (x10 + 1)) x372000 x372001) else (some false)))) else (none)) else (laws_FnTrustConsent.l0 k x5 x6 x8 x9 (wrap64 (x10 + 1)) x372000 x372001))) else ((laws_alive.f).bind fun t375 => (some t375))
end
def laws_FnTrustConsent.f (k : Nat) (l0 : List Int) (l1 : List Int) : Option (Bool) := if (l0.length : Int) > 1048576 then (laws_FnTrustConsent.j0 k l0 l1 true) else (laws_FnTrustConsent.j0 k l0 l1 (decide ((l1.length : Int) > 1048576)))
def laws_FnTrustConsent.T11 : Bool × List (List Nat × List Nat) := (true, [([], []), ([], []), ([], []), ([0, 1, 2], [0, 1, 2]), ([3, 3], [3]), ([4], [4]), ([4], [4]), ([4], [4]), ([4], [4]), ([4], [4]), ([9, 4], [4, 9]), ([8, 10, 4], [4, 8, 10]), ([7, 11, 4, 4], [4, 7, 11]), ([5, 6, 12, 12, 4], [4, 5, 6, 12]), ([13, 4], [4, 13]), ([4, 14], [4, 14])])
def laws_FnTrustConsent.B11 : List Nat := [0, 0, 0, 7, 15, 31, 31, 31, 31, 31, 543, 1823, 3999, 8191, 16383, 32767]
theorem laws_FnTrustConsent.tab11 : rtab .any (opsOf Try.f5 11) = laws_FnTrustConsent.T11 := by kernel_rfl
theorem laws_FnTrustConsent.bits11 : waitsOk laws_FnTrustConsent.T11.2 laws_FnTrustConsent.B11 = true := by kernel_rfl
set_option maxHeartbeats 8000000 in
set_option maxRecDepth 100000 in
theorem laws_FnTrustConsent.calls (k : Nat) (A0 : Option Addr) (c0 : Nat) (l0 : List Int) (A1 : Option Addr) (c1 : Nat) (l1 : List Int) (r : Bool) (w : World) (hr0 : Kd.C (Kd.int .u8) w A0 l0.length l0) (hc0 : l0.length ≤ c0) (hr1 : Kd.C (Kd.int .u8) w A1 l1.length l1) (hc1 : l1.length ≤ c1) (h : laws_FnTrustConsent.f k l0 l1 = some r) :
  Calls Try.prog 5 #[.slice A0 l0.length c0, .slice A1 l1.length c1] w fun e w' => e = .returned (.bool r) ∧ Below w.heap.size w w' := by
 have hu25 := Try.underlying25
 have HR0 := Aside0.mk hr0
 have HC0 := Aside0.mk hc0
 clear hr0 hc0
 have HR1 := Aside0.mk hr1
 have HC1 := Aside0.mk hc1
 clear hr1 hc1
 have HB := Aside0.mk (Below.refl w.heap.size w)
 have H := h
 clear h
 unfold laws_FnTrustConsent.f at H
 have HC3 := Aside0.mk H
 clear H
 go_enter Try.func5, Try.ntmps5
 go_upto_region 1 with (fail)
 go_cut [18] (fun v18 wc => ∃ (kq : Nat) (x18_2 : Bool), v18 = .bool x18_2 ∧ Aside0 (laws_FnTrustConsent.j0 kq l0 l1 x18_2 = some r) ∧ Aside0 (kq ≤ k) ∧ Aside0 (Below w.heap.size w wc))
 case first =>
  have H := HC3.out
  clear HC3
  by_cases c4 : (l0.length : Int) > 1048576
  ·rw [if_pos c4] at H
   have c4b0 : decide (1048576 < (l0.length : Int)) = true := decide_eq_true c4
   have c4b1 : decide (1048576 < l0.length) = true := decide_eq_true (by omega)
   clear c4
   (first | rw [c4b1] | rw [c4b0] | (simp only [i64_w, i32_w]; rw [c4b0]) | skip)
   have H' := Aside0.mk H
   clear H
   go_wp2
   go_meet
   case rel => exact ⟨_, (true), (by first | rfl | (simp; done) | (simp [*]; done)), H', ⟨by first | omega | exact Nat.le_refl _⟩, ⟨Z.bl HB.out⟩⟩
  ·rw [if_neg c4] at H
   have c4b0 : decide (1048576 < (l0.length : Int)) = false := decide_eq_false c4
   have c4b1 : decide (1048576 < l0.length) = false := decide_eq_false (by omega)
   clear c4
   (first | rw [c4b1] | rw [c4b0] | (simp only [i64_w, i32_w]; rw [c4b0]) | skip)
   have H' := Aside0.mk H
   clear H
   go_wp2
   go_meet
   case rel => exact ⟨_, (decide ((l1.length : Int) > 1048576)), (by first | rfl | (simp; done) | (simp [*]; done)), H', ⟨by first | omega | exact Nat.le_refl _⟩, ⟨Z.bl HB.out⟩⟩
 case rest =>
  clear HC3
  try clear c1
  try clear p2
  try clear c4
  try clear c4b0
  try clear c4b1
  obtain ⟨kq, x18_2, rfl, HA, HJ2, HB⟩ := hcut
  cases kq with
  | zero => exact absurd HA.out (by simp [laws_FnTrustConsent.j0])
  | succ kj2 =>
   have H := HA.out
   clear HA
   simp only [laws_FnTrustConsent.j0] at H
   by_cases c5 : x18_2 = true
   ·subst c5
    rw [if_pos rfl] at H
    obtain rfl := Option.some.inj H
    go_wp2
    go_ret
    exact ⟨by first | rfl | (simp [errW_none, errW_some] <;> rfl) | (simp [*, errW_none, errW_some] <;> rfl), Z.bl HB.out⟩
   ·replace c5 := Bool.eq_false_iff.mpr c5
    subst c5
    rw [if_neg (show ¬ (false = true) by decide)] at H
    replace H := Option.bind_eq_some_iff.mp H
    obtain ⟨⟨t360, t361⟩, A60, H⟩ := H
    try dsimp only at H
    have A6 := Aside0.mk A60
    clear A60
    replace H := Option.bind_eq_some_iff.mp H
    obtain ⟨⟨t364, t365, t368⟩, A70, H⟩ := H
    try dsimp only at H
    have A7 := Aside0.mk A70
    clear A70
    replace H := Option.bind_eq_some_iff.mp H
    obtain ⟨t372, A80, H⟩ := H
    try dsimp only at H
    have A8 := Aside0.mk A80
    clear A80
    have HC9 := Aside0.mk H
    clear H
    go_upto_region 6 with (first | ((with_reducible refine gate_callee (f := 14) rfl ?_); refine goesL_ (some 21) rfl rfl Try.func14 (by kernel_rfl) rfl #[.slice A0 l0.length c0] rfl Z.ar ?_; (with_reducible refine (spec_DrawSpokenFor.calls kj2 _ _ l0 t360 t361 _ ?q1 ?q2 A6.out).mono ?_); (case q1 => exact Z.cc HR0 HB); (case q2 => exact HC0.out); rintro e w10 ⟨v362, rfl, ho0, hb⟩; refine ⟨_, rfl, ?_⟩; have HO363 := Aside0.mk (Kd.R_lower ho0 (below_size (Z.bl HB.out))); replace HB := Z.st (Z.bl HB.out) hb; (try clear hb); (try clear hb2); (try clear hk); (try clear hi); (try clear ho0)) | ((with_reducible refine gate_callee (f := 15) rfl ?_); refine goesL_ (some 26) rfl rfl Try.func15 (by kernel_rfl) rfl #[.slice A1 l1.length c1] rfl Z.ar ?_; (with_reducible refine (spec_DrawLeastConsents.calls kj2 _ _ l1 t364 t365 t368 _ ?q1 ?q2 A7.out).mono ?_); (case q1 => exact Z.cc HR1 HB); (case q2 => exact HC1.out); rintro e w11 ⟨v366, v369, rfl, ho0, ho1, hb⟩; refine ⟨_, rfl, ?_⟩; have HO367 := Aside0.mk (Kd.R_lower (Kd.R_new' (Kd.R_mono (ok' := fun k_ => True) ho0 (fun _ hk_ => trivial)) (Kd.R_lt (by (with_reducible repeat (first | apply Kd.R_alloc | apply Kd.R_drewN | apply Kd.R_drew)); exact HO363.out))) (below_size (Z.bl HB.out))); have HO370 := Aside0.mk (Kd.V_lower (Kd.V_mono (ok' := fun k_ => some k_ ≠ (v366 : Value).ownBlock ∧ some k_ ≠ (v362 : Value).ownBlock) ho1 (fun k_ hk_ => ⟨hk_.2, (Kd.fresh' (Kd.R_lt (by (with_reducible repeat (first | apply Kd.R_alloc | apply Kd.R_drewN | apply Kd.R_drew)); exact HO363.out)) k_ hk_.1)⟩)) (below_size (Z.bl HB.out))); replace HO363 := Aside0.mk (Kd.R_elder' (by (with_reducible repeat (first | apply Kd.R_alloc | apply Kd.R_drewN | apply Kd.R_drew)); exact HO363.out) (Kd.R_base ho0) hb); replace HB := Z.st (Z.bl HB.out) hb; (try clear hb); (try clear hb2); (try clear hk); (try clear hi); (try clear ho0); (try clear ho1)) | ((with_reducible refine gate_dst (N := 7) rfl ?_); (try (refine gate_guard (by rfl) ?_; dsimp only)); refine Z.bx #[.int .i64 0, .slice none 0 0] 25 HB ?_; clear HB; intro gb371 w12 BK371 GE371 HB hg hb; have GW371 := GE371; replace HO363 := Aside0.mk (Kd.R_below (by (with_reducible repeat (first | apply Kd.R_alloc | apply Kd.R_drewN | apply Kd.R_drew)); exact HO363.out) hb); replace HO367 := Aside0.mk (Kd.R_below (by (with_reducible repeat (first | apply Kd.R_alloc | apply Kd.R_drewN | apply Kd.R_drew)); exact HO367.out) hb); replace HO370 := Aside0.mk (Kd.V_below (Kd.V_elderB (by (with_reducible repeat (first | apply Kd.V_alloc | apply Kd.V_drewN | apply Kd.V_drew)); exact HO370.out) gb371 (Nat.le_of_eq hg.symm)) hb); clear hb hg; have hcz13 := Z.c2 BK371.out; obtain ⟨Ao14, co14, eo14⟩ := Kd.R_slice HO367.out; subst eo14; obtain ⟨Ao15, co15, eo15⟩ := Kd.R_slice HO363.out; subst eo15) | ((with_reducible refine gate_callee (f := 16) rfl ?_); refine goesL_ (some 31) rfl rfl Try.func16 (by kernel_rfl) rfl #[.slice Ao15 t360.length co15, .int .i64 t361] rfl Z.ar ?_; (with_reducible refine (impl_SpokenFor.calls kj2 _ _ t360 t361 t372 _ ?q1 ?q2 A8.out).mono ?_); (case q1 => refine (Kd.R_reads' (e := 3) (base := w.heap.size) (ok := fun k_ => (True ∧ some k_ ≠ (.slice Ao14 t365.length co14 : Value).ownBlock)) (n := t360.length) (c := co15) ?_).2.2; exact (by (with_reducible repeat (first | apply Kd.R_alloc | apply Kd.R_drewN | apply Kd.R_drew)); exact (Kd.R_mono (Kd.R_far (p := ⟨gb371, 1, none⟩) (Kd.R_far (p := ⟨gb371, 0, none⟩) (Kd.R_types HO363.out BK371.out (by decide)) (fun _ hk => hk.2) (.int .i64 t364)) (fun _ hk => hk.2) (.slice Ao14 t365.length co14)) (fun _ h_ => h_.1)))); (case q2 => exact (Kd.R_reads' HO363.out).2.1); rintro e w' ⟨rfl, ⟨nd, rfl⟩⟩; refine ⟨_, rfl, ?_⟩))
    (try simp only [Act.put, List.setIfInBounds_toArray, List.set_cons_zero, List.set_cons_succ])
    go_cut [46] (fun v46 wc => ∃ (kq : Nat) (x46_8 : Bool), v46 = .bool x46_8 ∧ Aside0 (laws_FnTrustConsent.j1 kq t360 t361 t368 t372 x46_8 t364 t365 = some r) ∧ Aside0 (kq ≤ kj2) ∧ Aside0 (Kd.R (Kd.int .i64) 3 wc w.heap.size (fun k_ => some k_ ≠ ((.slice Ao14 t365.length co14) : Value).ownBlock) (.slice Ao15 t360.length co15) t360) ∧ Aside0 (Kd.V k35 35 wc w.heap.size (fun k_ => some k_ ≠ ((.slice Ao15 t360.length co15) : Value).ownBlock ∧ some k_ ≠ ((.slice Ao14 t365.length co14) : Value).ownBlock ∧ k_ ≠ gb371) v369 t368) ∧ Aside0 (Kd.R (Kd.int .i64) 3 wc w.heap.size (fun k_ => some k_ ≠ ((.slice Ao15 t360.length co15) : Value).ownBlock) (.slice Ao14 t365.length co14) t365) ∧ Aside0 (wc.heap[gb371]? = some (.cells #[.int .i64 t364, (.slice Ao14 t365.length co14)] 25 (0, 0))) ∧ Aside0 (Below w.heap.size w wc))
    case first =>
     have H := HC9.out
     clear HC9
     by_cases c16 : t372 < 0
     ·rw [if_pos c16] at H
      have c16b0 := decide_eq_true c16
      clear c16
      (first | rw [c16b0] | (simp only [i64_w, i32_w]; rw [c16b0]) | skip)
      have H' := Aside0.mk H
      clear H
      go_wp2
      go_meet
      case rel => exact ⟨_, (true), (by first | rfl | (simp; done) | (simp [*]; done)), H', ⟨by have := HJ2.out; first | omega | exact Nat.le_refl _⟩, ⟨by (with_reducible repeat (first | apply Kd.R_alloc | apply Kd.R_drewN | apply Kd.R_drew)); exact Kd.R_mono (Kd.R_far (p := ⟨gb371, 1, none⟩) (Kd.R_far (p := ⟨gb371, 0, none⟩) (Kd.R_types HO363.out BK371.out (by decide)) (fun _ hk => hk.2) (.int .i64 t364)) (fun _ hk => hk.2) (.slice Ao14 t365.length co14)) (fun _ hk => hk.1.2)⟩, ⟨by (with_reducible repeat (first | apply Kd.V_alloc | apply Kd.V_drewN | apply Kd.V_drew)); exact Kd.V_mono (Kd.V_far (p := ⟨gb371, 1, none⟩) (Kd.V_far (p := ⟨gb371, 0, none⟩) (Kd.V_mono HO370.out (fun k_ hk => (⟨hk, hk.2⟩ : _ ∧ k_ ≠ gb371))) (fun _ hk => hk.2) (.int .i64 t364)) (fun _ hk => hk.2) (.slice Ao14 t365.length co14)) (fun _ hk => ⟨hk.1.1.2, ⟨hk.1.1.1, hk.1.2⟩⟩)⟩, ⟨by (with_reducible repeat (first | apply Kd.R_alloc | apply Kd.R_drewN | apply Kd.R_drew)); exact Kd.R_mono (Kd.R_far (p := ⟨gb371, 1, none⟩) (Kd.R_far (p := ⟨gb371, 0, none⟩) (Kd.R_types HO367.out BK371.out (by decide)) (fun _ hk => hk.2) (.int .i64 t364)) (fun _ hk => hk.2) (.slice Ao14 t365.length co14)) (fun _ hk => hk.1.2)⟩, ⟨by (with_reducible repeat (first | refine blk_drewN ?_ _ | refine blk_drew ?_ | refine blk_alloc ?_ _)); refine blk_put (cs := #[.int .i64 t364, .slice none 0 0]) ?_ 1 _ rfl; (with_reducible repeat (first | refine blk_drewN ?_ _ | refine blk_drew ?_ | refine blk_alloc ?_ _)); refine blk_put (cs := #[.int .i64 0, .slice none 0 0]) ?_ 0 _ rfl; (with_reducible repeat (first | refine blk_drewN ?_ _ | refine blk_drew ?_ | refine blk_alloc ?_ _)); exact BK371.out⟩, ⟨Z.bs HB.out GE371.out⟩⟩
     ·rw [if_neg c16] at H
      have c16b0 := decide_eq_false c16
      clear c16
      (first | rw [c16b0] | (simp only [i64_w, i32_w]; rw [c16b0]) | skip)
      by_cases c17 : t364 = (t360.length : Int)
      ·rw [if_pos c17] at H
       have c17b0 : (t364 == (t360.length : Int)) = true := beq_iff_eq.mpr c17
       have c17b1 : (t364 != (t360.length : Int)) = false := bne_eq_false_iff_eq.mpr c17
       clear c17
       replace H := Option.bind_eq_some_iff.mp H
       obtain ⟨t373, A180, H⟩ := H
       try dsimp only at H
       have A18 := Aside0.mk A180
       clear A180
       have H' := Aside0.mk H
       clear H
       have hcz19 := Z.c2 BK371.out
       obtain ⟨Ao20, co20, eo20⟩ := Kd.V_slice HO370.out
       subst eo20
       go_wp2_with (first | (go_at_call 8; (with_reducible refine (spec_TermOk.calls kj2 t364 _ _ t365 _ _ t368 t373 _ ?q1 ?q2 ?q3 ?q4 A18.out).mono ?_); (case q1 => refine (Kd.R_reads' (e := 3) (base := w.heap.size) (ok := fun k_ => (True ∧ some k_ ≠ (.slice Ao15 t360.length co15 : Value).ownBlock)) (n := t365.length) (c := co14) ?_).2.2; exact (by (with_reducible repeat (first | apply Kd.R_alloc | apply Kd.R_drewN | apply Kd.R_drew)); exact (Kd.R_mono (Kd.R_far (p := ⟨gb371, 1, none⟩) (Kd.R_far (p := ⟨gb371, 0, none⟩) (Kd.R_types HO367.out BK371.out (by decide)) (fun _ hk => hk.2) (.int .i64 t364)) (fun _ hk => hk.2) (.slice Ao14 t365.length co14)) (fun _ h_ => h_.1)))); (case q2 => exact (Kd.R_reads' HO367.out).2.1); (case q3 => refine (Kd.V_reads' (e := 35) (base := w.heap.size) (ok := fun k_ => ((some k_ ≠ (.slice Ao14 t365.length co14 : Value).ownBlock ∧ some k_ ≠ (.slice Ao15 t360.length co15 : Value).ownBlock) ∧ k_ ≠ gb371)) (n := t368.length) (c := co20) ?_).2.2; exact (by (with_reducible repeat (first | apply Kd.V_alloc | apply Kd.V_drewN | apply Kd.V_drew)); exact (Kd.V_mono (Kd.V_far (p := ⟨gb371, 1, none⟩) (Kd.V_far (p := ⟨gb371, 0, none⟩) (Kd.V_mono HO370.out (fun k_ hk => (⟨hk, hk.2⟩ : _ ∧ k_ ≠ gb371))) (fun _ hk => hk.2) (.int .i64 t364)) (fun _ hk => hk.2) (.slice Ao14 t365.length co14)) (fun _ h_ => h_.1)))); (case q4 => exact (Kd.V_reads' HO370.out).2.1); rintro e w21 ⟨rfl, hb⟩; replace HO363 := Aside0.mk (Kd.R_below (by (with_reducible repeat (first | apply Kd.R_alloc | apply Kd.R_drewN | apply Kd.R_drew)); exact (Kd.R_mono (Kd.R_far (p := ⟨gb371, 1, none⟩) (Kd.R_far (p := ⟨gb371, 0, none⟩) (Kd.R_types HO363.out BK371.out (by decide)) (fun _ hk => hk.2) (.int .i64 t364)) (fun _ hk => hk.2) (.slice Ao14 t365.length co14)) (fun _ h_ => h_.1))) hb); replace HO367 := Aside0.mk (Kd.R_below (by (with_reducible repeat (first | apply Kd.R_alloc | apply Kd.R_drewN | apply Kd.R_drew)); exact (Kd.R_mono (Kd.R_far (p := ⟨gb371, 1, none⟩) (Kd.R_far (p := ⟨gb371, 0, none⟩) (Kd.R_types HO367.out BK371.out (by decide)) (fun _ hk => hk.2) (.int .i64 t364)) (fun _ hk => hk.2) (.slice Ao14 t365.length co14)) (fun _ h_ => h_.1))) hb); replace HO370 := Aside0.mk (Kd.V_below (by (with_reducible repeat (first | apply Kd.V_alloc | apply Kd.V_drewN | apply Kd.V_drew)); exact (Kd.V_mono (Kd.V_far (p := ⟨gb371, 1, none⟩) (Kd.V_far (p := ⟨gb371, 0, none⟩) (Kd.V_mono HO370.out (fun k_ hk => (⟨hk, hk.2⟩ : _ ∧ k_ ≠ gb371))) (fun _ hk => hk.2) (.int .i64 t364)) (fun _ hk => hk.2) (.slice Ao14 t365.length co14)) (fun _ h_ => h_.1))) hb); replace BK371 := Aside0.mk (blk_below (g := gb371) (o := .cells #[.int .i64 t364, .slice Ao14 t365.length co14] 25 (0, 0)) (by (with_reducible repeat (first | refine blk_drewN ?_ _ | refine blk_drew ?_ | refine blk_alloc ?_ _)); refine blk_put (cs := #[.int .i64 t364, .slice none 0 0]) ?_ 1 _ rfl; (with_reducible repeat (first | refine blk_drewN ?_ _ | refine blk_drew ?_ | refine blk_alloc ?_ _)); refine blk_put (cs := #[.int .i64 0, .slice none 0 0]) ?_ 0 _ rfl; (with_reducible repeat (first | refine blk_drewN ?_ _ | refine blk_drew ?_ | refine blk_alloc ?_ _)); exact BK371.out) hb); replace HB := Z.st (Z.bs HB.out GE371.out) hb; (try clear hb); (try clear hb2); (try clear hk); (try clear hi)))
       go_meet
       case rel => exact ⟨_, (!t373), (by first | rfl | (simp; done) | (simp [*]; done)), H', ⟨by have := HJ2.out; first | omega | exact Nat.le_refl _⟩, ⟨by (with_reducible repeat (first | apply Kd.R_alloc | apply Kd.R_drewN | apply Kd.R_drew)); exact Kd.R_mono HO363.out (fun _ hk => hk.2)⟩, ⟨by (with_reducible repeat (first | apply Kd.V_alloc | apply Kd.V_drewN | apply Kd.V_drew)); exact Kd.V_mono HO370.out (fun _ hk => ⟨hk.1.2, ⟨hk.1.1, hk.2⟩⟩)⟩, ⟨by (with_reducible repeat (first | apply Kd.R_alloc | apply Kd.R_drewN | apply Kd.R_drew)); exact Kd.R_mono HO367.out (fun _ hk => hk.2)⟩, ⟨by (with_reducible repeat (first | refine blk_drewN ?_ _ | refine blk_drew ?_ | refine blk_alloc ?_ _)); exact BK371.out⟩, ⟨Z.bs HB.out GE371.out⟩⟩
      ·rw [if_neg c17] at H
       have c17b0 : (t364 == (t360.length : Int)) = false := beq_eq_false_iff_ne.mpr c17
       have c17b1 : (t364 != (t360.length : Int)) = true := bne_iff_ne.mpr c17
       have H' := Aside0.mk H
       clear H
       have hcz22 := Z.c2 BK371.out
       go_wp2
       go_meet
       case rel => exact ⟨_, (true), (by first | rfl | (simp; done) | (simp [*]; done)), H', ⟨by have := HJ2.out; first | omega | exact Nat.le_refl _⟩, ⟨by (with_reducible repeat (first | apply Kd.R_alloc | apply Kd.R_drewN | apply Kd.R_drew)); exact Kd.R_mono (Kd.R_far (p := ⟨gb371, 1, none⟩) (Kd.R_far (p := ⟨gb371, 0, none⟩) (Kd.R_types HO363.out BK371.out (by decide)) (fun _ hk => hk.2) (.int .i64 t364)) (fun _ hk => hk.2) (.slice Ao14 t365.length co14)) (fun _ hk => hk.1.2)⟩, ⟨by (with_reducible repeat (first | apply Kd.V_alloc | apply Kd.V_drewN | apply Kd.V_drew)); exact Kd.V_mono (Kd.V_far (p := ⟨gb371, 1, none⟩) (Kd.V_far (p := ⟨gb371, 0, none⟩) (Kd.V_mono HO370.out (fun k_ hk => (⟨hk, hk.2⟩ : _ ∧ k_ ≠ gb371))) (fun _ hk => hk.2) (.int .i64 t364)) (fun _ hk => hk.2) (.slice Ao14 t365.length co14)) (fun _ hk => ⟨hk.1.1.2, ⟨hk.1.1.1, hk.1.2⟩⟩)⟩, ⟨by (with_reducible repeat (first | apply Kd.R_alloc | apply Kd.R_drewN | apply Kd.R_drew)); exact Kd.R_mono (Kd.R_far (p := ⟨gb371, 1, none⟩) (Kd.R_far (p := ⟨gb371, 0, none⟩) (Kd.R_types HO367.out BK371.out (by decide)) (fun _ hk => hk.2) (.int .i64 t364)) (fun _ hk => hk.2) (.slice Ao14 t365.length co14)) (fun _ hk => hk.1.2)⟩, ⟨by (with_reducible repeat (first | refine blk_drewN ?_ _ | refine blk_drew ?_ | refine blk_alloc ?_ _)); refine blk_put (cs := #[.int .i64 t364, .slice none 0 0]) ?_ 1 _ rfl; (with_reducible repeat (first | refine blk_drewN ?_ _ | refine blk_drew ?_ | refine blk_alloc ?_ _)); refine blk_put (cs := #[.int .i64 0, .slice none 0 0]) ?_ 0 _ rfl; (with_reducible repeat (first | refine blk_drewN ?_ _ | refine blk_drew ?_ | refine blk_alloc ?_ _)); exact BK371.out⟩, ⟨Z.bs HB.out GE371.out⟩⟩
    case rest =>
     clear HC9
     try clear c1
     try clear p2
     try clear c4
     try clear c4b0
     try clear c4b1
     try clear c5
     try clear c14
     try clear c15
     try clear c16
     try clear c16b0
     try clear c17
     try clear c17b0
     try clear c17b1
     try clear hcz13_0
     try clear hcz13_1
     try clear hcz19_0
     try clear hcz19_1
     try clear hcz22_0
     try clear hcz22_1
     try clear hfz13_0
     try clear hfz13_1
     try clear hfz19_0
     try clear hfz19_1
     try clear hfz22_0
     try clear hfz22_1
     try clear p2
     obtain ⟨kq, x46_8, rfl, HA, HJ8, HO_5, HO_8, HO_372001, BK371, HB⟩ := hcut
     cases kq with
     | zero => exact absurd HA.out (by simp [laws_FnTrustConsent.j1])
     | succ kj8 =>
      have H := HA.out
      clear HA
      simp only [laws_FnTrustConsent.j1] at H
      by_cases c23 : x46_8 = true
      ·subst c23
       rw [if_pos rfl] at H
       replace H := Option.bind_eq_some_iff.mp H
       obtain ⟨t374, A240, H⟩ := H
       try dsimp only at H
       have A24 := Aside0.mk A240
       clear A240
       obtain rfl := Option.some.inj H
       go_wp2_with (first | ((with_reducible refine gate_callee (f := 9) rfl ?_); refine goesL_ (some 47) rfl rfl Try.func9 (by kernel_rfl) rfl #[] rfl Z.ar ?_; (with_reducible refine (laws_alive.calls  t374 _ A24.out).mono ?_); rintro e w' ⟨rfl, ⟨nd, rfl⟩⟩; refine ⟨_, rfl, ?_⟩))
       go_ret
       exact ⟨by first | rfl | (simp [errW_none, errW_some] <;> rfl) | (simp [*, errW_none, errW_some] <;> rfl), Z.bs HB.out GE371.out⟩
      ·replace c23 := Bool.eq_false_iff.mpr c23
       subst c23
       rw [if_neg (show ¬ (false = true) by decide)] at H
       have H' := Aside0.mk H
       clear H
       go_wp2
       go_loopg [10] kj8 (fun kq v10 w' => ∃ (x10_3 : Int), v10 = .int .i64 x10_3 ∧ Aside0 (laws_FnTrustConsent.l0 kq t360 t361 t368 t372 x10_3 t364 t365 = some r) ∧ Aside0 (kq ≤ kj8) ∧ Aside0 (Kd.R (Kd.int .i64) 3 w' w.heap.size (fun k_ => some k_ ≠ ((.slice Ao14 t365.length co14) : Value).ownBlock) (.slice Ao15 t360.length co15) t360) ∧ Aside0 (Kd.V k35 35 w' w.heap.size (fun k_ => some k_ ≠ ((.slice Ao15 t360.length co15) : Value).ownBlock ∧ some k_ ≠ ((.slice Ao14 t365.length co14) : Value).ownBlock ∧ k_ ≠ gb371) v369 t368) ∧ Aside0 (Kd.R (Kd.int .i64) 3 w' w.heap.size (fun k_ => some k_ ≠ ((.slice Ao15 t360.length co15) : Value).ownBlock) (.slice Ao14 t365.length co14) t365) ∧ Aside0 (w'.heap[gb371]? = some (.cells #[.int .i64 t364, (.slice Ao14 t365.length co14)] 25 (0, 0))) ∧ Aside0 (Below w.heap.size w w'))
       case atStart => exact ⟨(0), (by first | rfl | (simp; done) | (simp [*]; done)), H', ⟨Nat.le_refl _⟩, ⟨by (with_reducible repeat (first | apply Kd.R_alloc | apply Kd.R_drewN | apply Kd.R_drew)); exact HO_5.out⟩, ⟨by (with_reducible repeat (first | apply Kd.V_alloc | apply Kd.V_drewN | apply Kd.V_drew)); exact HO_8.out⟩, ⟨by (with_reducible repeat (first | apply Kd.R_alloc | apply Kd.R_drewN | apply Kd.R_drew)); exact HO_372001.out⟩, ⟨by (with_reducible repeat (first | refine blk_drewN ?_ _ | refine blk_drew ?_ | refine blk_alloc ?_ _)); exact BK371.out⟩, ⟨Z.bs HB.out GE371.out⟩⟩
       case round =>
        clear H'
        try clear c1
        try clear c2
        try clear p2
        try clear c4
        try clear c4b0
        try clear c4b1
        try clear c5
        try clear c9
        try clear c14
        try clear c15
        try clear c16
        try clear c16b0
        try clear c17
        try clear c17b0
        try clear c17b1
        try clear c23
        try clear hcz13_0
        try clear hcz13_1
        try clear hcz19_0
        try clear hcz19_1
        try clear hcz22_0
        try clear hcz22_1
        try clear hfz13_0
        try clear hfz13_1
        try clear hfz19_0
        try clear hfz19_1
        try clear hfz22_0
        try clear hfz22_1
        try clear p2
        obtain ⟨x10_3, rfl, HA, HK3, HO_5, HO_8, HO_372001, BK371, HB⟩ := hrel
        cases gk with
        | zero => exact absurd HA.out (by simp [laws_FnTrustConsent.l0])
        | succ k3 =>
         have H := HA.out
         clear HA
         simp only [laws_FnTrustConsent.l0] at H
         by_cases c25 : x10_3 < t364
         ·rw [if_pos c25] at H
          have c25b0 := decide_eq_true c25
          clear c25
          replace H := Option.bind_eq_some_iff.mp H
          obtain ⟨t376, A260, H⟩ := H
          try dsimp only at H
          have A26 := Aside0.mk A260
          clear A260
          by_cases c27 : t376 = true
          ·subst c27
           rw [if_pos rfl] at H
           obtain ⟨c28, H⟩ := Z.ifp H
           have c28b0 := eq_true c28
           have c28b1 : decide (0 ≤ x10_3) = true := decide_eq_true c28
           clear c28
           obtain ⟨ji29, hji29⟩ : ∃ j_ : Int, (shl .i64 1 x10_3) = j_ := ⟨_, rfl⟩
           replace H : ((impl_SpokenFor.f k3 t360 (Go.bits .or .i64 t361 (ji29))).bind fun t377 => ((impl_ConsentOk.f k3 t364 t365 t368 t377).bind fun t378 => (if t378 = true then (laws_FnTrustConsent.l0 k3 t360 t361 t368 t372 (wrap64 (x10_3 + 1)) t364 t365) else (some false)))) = some r := by first | (rw [hji29] at H; exact H) | (simp only [hji29] at H ⊢; exact H)
           (try rw [hji29] at A26)
           have hji29_ : (IntKind.i64.wrap (1 * 2 ^ min x10_3.toNat 64)) = ji29 := hji29
           have hji29z : x10_3 ≤ 64 → (IntKind.i64.wrap (1 * 2 ^ x10_3.toNat)) = ji29 := shl_small hji29
           have hji29u : (IntKind.i64.wrap (2 ^ min x10_3.toNat 64)) = ji29 := by have h_ := hji29_; rw [Int.one_mul] at h_; exact h_
           have hji29v : x10_3 ≤ 64 → (IntKind.i64.wrap (2 ^ x10_3.toNat)) = ji29 := fun hle_ => by have h_ := hji29z hle_; rw [Int.one_mul] at h_; exact h_
           have hji29y : (wrap64 (1 * 2 ^ min x10_3.toNat 64)) = ji29 := (i64_w _).symm.trans hji29_
           have hji29x : x10_3 ≤ 64 → (wrap64 (1 * 2 ^ x10_3.toNat)) = ji29 := fun h_ => (i64_w _).symm.trans (hji29z h_)
           replace H := Option.bind_eq_some_iff.mp H
           obtain ⟨t377, A300, H⟩ := H
           try dsimp only at H
           have A30 := Aside0.mk A300
           clear A300
           replace H := Option.bind_eq_some_iff.mp H
           obtain ⟨t378, A310, H⟩ := H
           try dsimp only at H
           have A31 := Aside0.mk A310
           clear A310
           by_cases c32 : t378 = true
           ·subst c32
            rw [if_pos rfl] at H
            have H' := Aside0.mk H
            clear H
            have hcz33 := Z.c2 BK371.out
            try go_wp2
            replace HO_5 := Aside0.mk (Kd.R_drew HO_5.out)
            replace HO_8 := Aside0.mk (Kd.V_drew HO_8.out)
            replace HO_372001 := Aside0.mk (Kd.R_drew HO_372001.out)
            replace BK371 := Aside0.mk (blk_drew BK371.out)
            replace HB := Aside0.mk (below_drew1 HB.out)
            obtain ⟨Ao35, co35, eo35⟩ := Kd.V_slice HO_8.out
            (first | subst eo35 | (injection eo35 with f1_ f2_ f3_; have f4_ := f1_.symm; have f5_ := f3_.symm; clear f1_ f2_ f3_; subst f4_; subst f5_))
            refine start_ (n := 16) (S := fun w' => w'.cell? ⟨gb371, 0, none⟩ = some (.int .i64 t364) ∧ w'.cell? ⟨gb371, 1, none⟩ = some (.slice Ao14 t365.length co14)) (ds := []) #[false, false, false, false, false, false, false, false, false, false, false, false, false, false, false, false] (by kernel_rfl) rfl rfl ⟨(blk_cell BK371.out 0).trans rfl, (blk_cell BK371.out 1).trans rfl⟩ (fun hHeld => ?_); refine with_tabW laws_FnTrustConsent.tab11 laws_FnTrustConsent.bits11 (fun HT_ HW_ => ?_)
            generalize wr.drew = w34 at HO_5 HO_8 HO_372001 BK371 HB hHeld ⊢
            refine Z.pv 1 55 16 2 HT_.out ?_
            refine Z.pv 2 56 16 6 HT_.out ?_
            refine Z.t2 0 54 16 7 HT_.out HW_.out hHeld ?_
            refine one_ (i := 3) (N := some 57) (Z.mb 16 15) rfl rfl (one_of HT_.out (by kernel_rfl)) (by decide) (fun K hK => ?_)
            refine goes_ Try.func17 (by kernel_rfl) rfl #[.agg #[.int .i64 t364, .slice Ao14 t365.length co14], .slice Ao35 t368.length co35, .int .i64 t372] (by rfl) rfl rfl Z.ar ?_
            with_reducible refine (impl_ConsentOk.calls k3 t364 _ _ t365 _ _ t368 t372 true _ ?q1 ?q2 ?q3 ?q4 A26.out).mono ?_
            (case q1 => repeat (first | exact (Kd.R_reads' HO_372001.out).2.2 | (with_reducible refine Kd.C_alloc ?_ _) | (with_reducible refine Kd.C_drewN ?_ _) | (with_reducible refine Kd.C_drew ?_)))
            (case q2 => exact (Kd.R_reads' HO_372001.out).2.1)
            (case q3 => repeat (first | exact (Kd.V_reads' HO_8.out).2.2 | (with_reducible refine Kd.C_alloc ?_ _) | (with_reducible refine Kd.C_drewN ?_ _) | (with_reducible refine Kd.C_drew ?_)))
            (case q4 => exact (Kd.V_reads' HO_8.out).2.1)
            rintro e w36 ⟨rfl, hb⟩
            refine ⟨_, rfl, ?_⟩
            replace HO_5 := Aside0.mk (Kd.R_below (by (with_reducible repeat (first | apply Kd.R_alloc | apply Kd.R_drewN | apply Kd.R_drew)); exact HO_5.out) hb)
            replace HO_8 := Aside0.mk (Kd.V_below (by (with_reducible repeat (first | apply Kd.V_alloc | apply Kd.V_drewN | apply Kd.V_drew)); exact HO_8.out) hb)
            replace HO_372001 := Aside0.mk (Kd.R_below (by (with_reducible repeat (first | apply Kd.R_alloc | apply Kd.R_drewN | apply Kd.R_drew)); exact HO_372001.out) hb)
            replace BK371 := Z.bb BK371 hb
            replace HB := Z.st (Z.bs HB.out GE371.out) hb
            (try clear hb)
            (try clear hb2)
            (try clear hk)
            (try clear hi)
            refine hK.out _ _ ⟨(blk_cell BK371.out 0).trans rfl, (blk_cell BK371.out 1).trans rfl⟩ (fun hHeld => ?_)
            clear hK K
            refine Z.nm ?_
            refine Z.pv 4 58 16 31 HT_.out ?_
            refine Z.pv 6 60 16 95 HT_.out ?_
            refine Z.pv 7 61 16 223 HT_.out ?_
            refine Z.pv 8 62 16 479 HT_.out ?_
            refine Z.pv 9 63 16 991 HT_.out ?_
            refine Z.pv 10 64 16 2015 HT_.out ?_
            refine Z.pv 11 65 16 4063 HT_.out ?_
            refine Z.t2 5 59 16 4095 HT_.out HW_.out hHeld ?_
            refine one_ (i := 12) (N := some 66) (Z.mb 16 8191) rfl rfl (one_of HT_.out (by kernel_rfl)) (by decide) (fun K hK => ?_)
            refine goes_ Try.func16 (by kernel_rfl) rfl #[.slice Ao15 t360.length co15, .int .i64 (Go.bits .or .i64 t361 (ji29))] (by rfl) rfl rfl (by (try simp only [List.map_toArray, List.map_cons, List.map_nil]); first | done | (simp only [hji29]; rfl) | rfl | (simp only [List.length_drop, List.length_take]; rfl)) ?_
            with_reducible refine (impl_SpokenFor.calls k3 _ _ t360 (Go.bits .or .i64 t361 (ji29)) t377 _ ?q1 ?q2 A30.out).mono ?_
            (case q1 => repeat (first | exact (Kd.R_reads' HO_5.out).2.2 | (with_reducible refine Kd.C_alloc ?_ _) | (with_reducible refine Kd.C_drewN ?_ _) | (with_reducible refine Kd.C_drew ?_)))
            (case q2 => exact (Kd.R_reads' HO_5.out).2.1)
            rintro e w' ⟨rfl, ⟨nd, rfl⟩⟩
            refine ⟨_, rfl, ?_⟩
            refine hK.out _ _ ⟨(blk_cell BK371.out 0).trans rfl, (blk_cell BK371.out 1).trans rfl⟩ (fun hHeld => ?_)
            clear hK K
            refine Z.nm ?_
            refine one_ (i := 13) (N := some 67) (Z.mb 16 16383) rfl rfl (one_of HT_.out (by kernel_rfl)) (by decide) (fun K hK => ?_)
            refine goes_ Try.func17 (by kernel_rfl) rfl #[.agg #[.int .i64 t364, .slice Ao14 t365.length co14], .slice Ao35 t368.length co35, .int .i64 t377] (by rfl) rfl rfl Z.ar ?_
            with_reducible refine (impl_ConsentOk.calls k3 t364 _ _ t365 _ _ t368 t377 true _ ?q1 ?q2 ?q3 ?q4 A31.out).mono ?_
            (case q1 => repeat (first | exact (Kd.R_reads' HO_372001.out).2.2 | (with_reducible refine Kd.C_alloc ?_ _) | (with_reducible refine Kd.C_drewN ?_ _) | (with_reducible refine Kd.C_drew ?_)))
            (case q2 => exact (Kd.R_reads' HO_372001.out).2.1)
            (case q3 => repeat (first | exact (Kd.V_reads' HO_8.out).2.2 | (with_reducible refine Kd.C_alloc ?_ _) | (with_reducible refine Kd.C_drewN ?_ _) | (with_reducible refine Kd.C_drew ?_)))
            (case q4 => exact (Kd.V_reads' HO_8.out).2.1)
            rintro e w37 ⟨rfl, hb⟩
            refine ⟨_, rfl, ?_⟩
            replace HO_5 := Aside0.mk (Kd.R_below (by (with_reducible repeat (first | apply Kd.R_alloc | apply Kd.R_drewN | apply Kd.R_drew)); exact HO_5.out) hb)
            replace HO_8 := Aside0.mk (Kd.V_below (by (with_reducible repeat (first | apply Kd.V_alloc | apply Kd.V_drewN | apply Kd.V_drew)); exact HO_8.out) hb)
            replace HO_372001 := Aside0.mk (Kd.R_below (by (with_reducible repeat (first | apply Kd.R_alloc | apply Kd.R_drewN | apply Kd.R_drew)); exact HO_372001.out) hb)
            replace BK371 := Z.bb BK371 hb
            replace HB := Z.st (Z.bs HB.out GE371.out) hb
            (try clear hb)
            (try clear hb2)
            (try clear hk)
            (try clear hi)
            refine hK.out _ _ ⟨(blk_cell BK371.out 0).trans rfl, (blk_cell BK371.out 1).trans rfl⟩ (fun hHeld => ?_)
            clear hK K
            refine Z.nm ?_
            refine Z.pv 14 68 16 32767 HT_.out ?_
            refine Z.pv 15 69 16 65535 HT_.out ?_
            refine done_ (done_of HT_.out (by kernel_rfl)) ?_
            try go_wp2
            go_roundg k3
            case measure => have := HJ2.out; have := HJ8.out; have := HK3.out; omega
            case rel => exact ⟨(wrap64 (x10_3 + 1)), (by first | rfl | (simp; done) | (simp [*]; done)), H', ⟨by have := HJ2.out; have := HJ8.out; have := HK3.out; omega⟩, ⟨by (with_reducible repeat (first | apply Kd.R_alloc | apply Kd.R_drewN | apply Kd.R_drew)); exact HO_5.out⟩, ⟨by (with_reducible repeat (first | apply Kd.V_alloc | apply Kd.V_drewN | apply Kd.V_drew)); exact HO_8.out⟩, ⟨by (with_reducible repeat (first | apply Kd.R_alloc | apply Kd.R_drewN | apply Kd.R_drew)); exact HO_372001.out⟩, ⟨by (with_reducible repeat (first | refine blk_drewN ?_ _ | refine blk_drew ?_ | refine blk_alloc ?_ _)); exact BK371.out⟩, ⟨Z.bs HB.out GE371.out⟩⟩
           ·replace c32 := Bool.eq_false_iff.mpr c32
            subst c32
            rw [if_neg (show ¬ (false = true) by decide)] at H
            obtain rfl := Option.some.inj H
            have hcz38 := Z.c2 BK371.out
            try go_wp2
            replace HO_5 := Aside0.mk (Kd.R_drew HO_5.out)
            replace HO_8 := Aside0.mk (Kd.V_drew HO_8.out)
            replace HO_372001 := Aside0.mk (Kd.R_drew HO_372001.out)
            replace BK371 := Aside0.mk (blk_drew BK371.out)
            replace HB := Aside0.mk (below_drew1 HB.out)
            obtain ⟨Ao40, co40, eo40⟩ := Kd.V_slice HO_8.out
            (first | subst eo40 | (injection eo40 with f1_ f2_ f3_; have f4_ := f1_.symm; have f5_ := f3_.symm; clear f1_ f2_ f3_; subst f4_; subst f5_))
            refine start_ (n := 16) (S := fun w' => w'.cell? ⟨gb371, 0, none⟩ = some (.int .i64 t364) ∧ w'.cell? ⟨gb371, 1, none⟩ = some (.slice Ao14 t365.length co14)) (ds := []) #[false, false, false, false, false, false, false, false, false, false, false, false, false, false, false, false] (by kernel_rfl) rfl rfl ⟨(blk_cell BK371.out 0).trans rfl, (blk_cell BK371.out 1).trans rfl⟩ (fun hHeld => ?_); refine with_tabW laws_FnTrustConsent.tab11 laws_FnTrustConsent.bits11 (fun HT_ HW_ => ?_)
            generalize wr.drew = w39 at HO_5 HO_8 HO_372001 BK371 HB hHeld ⊢
            refine Z.pv 1 55 16 2 HT_.out ?_
            refine Z.pv 2 56 16 6 HT_.out ?_
            refine Z.t2 0 54 16 7 HT_.out HW_.out hHeld ?_
            refine one_ (i := 3) (N := some 57) (Z.mb 16 15) rfl rfl (one_of HT_.out (by kernel_rfl)) (by decide) (fun K hK => ?_)
            refine goes_ Try.func17 (by kernel_rfl) rfl #[.agg #[.int .i64 t364, .slice Ao14 t365.length co14], .slice Ao40 t368.length co40, .int .i64 t372] (by rfl) rfl rfl Z.ar ?_
            with_reducible refine (impl_ConsentOk.calls k3 t364 _ _ t365 _ _ t368 t372 true _ ?q1 ?q2 ?q3 ?q4 A26.out).mono ?_
            (case q1 => repeat (first | exact (Kd.R_reads' HO_372001.out).2.2 | (with_reducible refine Kd.C_alloc ?_ _) | (with_reducible refine Kd.C_drewN ?_ _) | (with_reducible refine Kd.C_drew ?_)))
            (case q2 => exact (Kd.R_reads' HO_372001.out).2.1)
            (case q3 => repeat (first | exact (Kd.V_reads' HO_8.out).2.2 | (with_reducible refine Kd.C_alloc ?_ _) | (with_reducible refine Kd.C_drewN ?_ _) | (with_reducible refine Kd.C_drew ?_)))
            (case q4 => exact (Kd.V_reads' HO_8.out).2.1)
            rintro e w41 ⟨rfl, hb⟩
            refine ⟨_, rfl, ?_⟩
            replace HO_5 := Aside0.mk (Kd.R_below (by (with_reducible repeat (first | apply Kd.R_alloc | apply Kd.R_drewN | apply Kd.R_drew)); exact HO_5.out) hb)
            replace HO_8 := Aside0.mk (Kd.V_below (by (with_reducible repeat (first | apply Kd.V_alloc | apply Kd.V_drewN | apply Kd.V_drew)); exact HO_8.out) hb)
            replace HO_372001 := Aside0.mk (Kd.R_below (by (with_reducible repeat (first | apply Kd.R_alloc | apply Kd.R_drewN | apply Kd.R_drew)); exact HO_372001.out) hb)
            replace BK371 := Z.bb BK371 hb
            replace HB := Z.st (Z.bs HB.out GE371.out) hb
            (try clear hb)
            (try clear hb2)
            (try clear hk)
            (try clear hi)
            refine hK.out _ _ ⟨(blk_cell BK371.out 0).trans rfl, (blk_cell BK371.out 1).trans rfl⟩ (fun hHeld => ?_)
            clear hK K
            refine Z.nm ?_
            refine Z.pv 4 58 16 31 HT_.out ?_
            refine Z.pv 6 60 16 95 HT_.out ?_
            refine Z.pv 7 61 16 223 HT_.out ?_
            refine Z.pv 8 62 16 479 HT_.out ?_
            refine Z.pv 9 63 16 991 HT_.out ?_
            refine Z.pv 10 64 16 2015 HT_.out ?_
            refine Z.pv 11 65 16 4063 HT_.out ?_
            refine Z.t2 5 59 16 4095 HT_.out HW_.out hHeld ?_
            refine one_ (i := 12) (N := some 66) (Z.mb 16 8191) rfl rfl (one_of HT_.out (by kernel_rfl)) (by decide) (fun K hK => ?_)
            refine goes_ Try.func16 (by kernel_rfl) rfl #[.slice Ao15 t360.length co15, .int .i64 (Go.bits .or .i64 t361 (ji29))] (by rfl) rfl rfl (by (try simp only [List.map_toArray, List.map_cons, List.map_nil]); first | done | (simp only [hji29]; rfl) | rfl | (simp only [List.length_drop, List.length_take]; rfl)) ?_
            with_reducible refine (impl_SpokenFor.calls k3 _ _ t360 (Go.bits .or .i64 t361 (ji29)) t377 _ ?q1 ?q2 A30.out).mono ?_
            (case q1 => repeat (first | exact (Kd.R_reads' HO_5.out).2.2 | (with_reducible refine Kd.C_alloc ?_ _) | (with_reducible refine Kd.C_drewN ?_ _) | (with_reducible refine Kd.C_drew ?_)))
            (case q2 => exact (Kd.R_reads' HO_5.out).2.1)
            rintro e w' ⟨rfl, ⟨nd, rfl⟩⟩
            refine ⟨_, rfl, ?_⟩
            refine hK.out _ _ ⟨(blk_cell BK371.out 0).trans rfl, (blk_cell BK371.out 1).trans rfl⟩ (fun hHeld => ?_)
            clear hK K
            refine Z.nm ?_
            refine one_ (i := 13) (N := some 67) (Z.mb 16 16383) rfl rfl (one_of HT_.out (by kernel_rfl)) (by decide) (fun K hK => ?_)
            refine goes_ Try.func17 (by kernel_rfl) rfl #[.agg #[.int .i64 t364, .slice Ao14 t365.length co14], .slice Ao40 t368.length co40, .int .i64 t377] (by rfl) rfl rfl Z.ar ?_
            with_reducible refine (impl_ConsentOk.calls k3 t364 _ _ t365 _ _ t368 t377 false _ ?q1 ?q2 ?q3 ?q4 A31.out).mono ?_
            (case q1 => repeat (first | exact (Kd.R_reads' HO_372001.out).2.2 | (with_reducible refine Kd.C_alloc ?_ _) | (with_reducible refine Kd.C_drewN ?_ _) | (with_reducible refine Kd.C_drew ?_)))
            (case q2 => exact (Kd.R_reads' HO_372001.out).2.1)
            (case q3 => repeat (first | exact (Kd.V_reads' HO_8.out).2.2 | (with_reducible refine Kd.C_alloc ?_ _) | (with_reducible refine Kd.C_drewN ?_ _) | (with_reducible refine Kd.C_drew ?_)))
            (case q4 => exact (Kd.V_reads' HO_8.out).2.1)
            rintro e w42 ⟨rfl, hb⟩
            refine ⟨_, rfl, ?_⟩
            replace HO_5 := Aside0.mk (Kd.R_below (by (with_reducible repeat (first | apply Kd.R_alloc | apply Kd.R_drewN | apply Kd.R_drew)); exact HO_5.out) hb)
            replace HO_8 := Aside0.mk (Kd.V_below (by (with_reducible repeat (first | apply Kd.V_alloc | apply Kd.V_drewN | apply Kd.V_drew)); exact HO_8.out) hb)
            replace HO_372001 := Aside0.mk (Kd.R_below (by (with_reducible repeat (first | apply Kd.R_alloc | apply Kd.R_drewN | apply Kd.R_drew)); exact HO_372001.out) hb)
            replace BK371 := Z.bb BK371 hb
            replace HB := Z.st (Z.bs HB.out GE371.out) hb
            (try clear hb)
            (try clear hb2)
            (try clear hk)
            (try clear hi)
            refine hK.out _ _ ⟨(blk_cell BK371.out 0).trans rfl, (blk_cell BK371.out 1).trans rfl⟩ (fun hHeld => ?_)
            clear hK K
            refine Z.nm ?_
            refine Z.pv 14 68 16 32767 HT_.out ?_
            refine Z.pv 15 69 16 65535 HT_.out ?_
            refine done_ (done_of HT_.out (by kernel_rfl)) ?_
            try go_wp2
            go_ret
            exact ⟨by first | rfl | (simp [errW_none, errW_some] <;> rfl) | (simp only [← hji29]; first | rfl | (simp [errW_none, errW_some] <;> rfl)) | (simp [*, errW_none, errW_some] <;> rfl), Z.bs HB.out GE371.out⟩
          ·replace c27 := Bool.eq_false_iff.mpr c27
           subst c27
           rw [if_neg (show ¬ (false = true) by decide)] at H
           have H' := Aside0.mk H
           clear H
           have hcz43 := Z.c2 BK371.out
           try go_wp2
           replace HO_5 := Aside0.mk (Kd.R_drew HO_5.out)
           replace HO_8 := Aside0.mk (Kd.V_drew HO_8.out)
           replace HO_372001 := Aside0.mk (Kd.R_drew HO_372001.out)
           replace BK371 := Aside0.mk (blk_drew BK371.out)
           replace HB := Aside0.mk (below_drew1 HB.out)
           obtain ⟨Ao45, co45, eo45⟩ := Kd.V_slice HO_8.out
           (first | subst eo45 | (injection eo45 with f1_ f2_ f3_; have f4_ := f1_.symm; have f5_ := f3_.symm; clear f1_ f2_ f3_; subst f4_; subst f5_))
           refine start_ (n := 16) (S := fun w' => w'.cell? ⟨gb371, 0, none⟩ = some (.int .i64 t364) ∧ w'.cell? ⟨gb371, 1, none⟩ = some (.slice Ao14 t365.length co14)) (ds := []) #[false, false, false, false, false, false, false, false, false, false, false, false, false, false, false, false] (by kernel_rfl) rfl rfl ⟨(blk_cell BK371.out 0).trans rfl, (blk_cell BK371.out 1).trans rfl⟩ (fun hHeld => ?_); refine with_tabW laws_FnTrustConsent.tab11 laws_FnTrustConsent.bits11 (fun HT_ HW_ => ?_)
           generalize wr.drew = w44 at HO_5 HO_8 HO_372001 BK371 HB hHeld ⊢
           refine Z.pv 1 55 16 2 HT_.out ?_
           refine Z.pv 2 56 16 6 HT_.out ?_
           refine Z.t2 0 54 16 7 HT_.out HW_.out hHeld ?_
           refine one_ (i := 3) (N := some 57) (Z.mb 16 15) rfl rfl (one_of HT_.out (by kernel_rfl)) (by decide) (fun K hK => ?_)
           refine goes_ Try.func17 (by kernel_rfl) rfl #[.agg #[.int .i64 t364, .slice Ao14 t365.length co14], .slice Ao45 t368.length co45, .int .i64 t372] (by rfl) rfl rfl Z.ar ?_
           with_reducible refine (impl_ConsentOk.calls k3 t364 _ _ t365 _ _ t368 t372 false _ ?q1 ?q2 ?q3 ?q4 A26.out).mono ?_
           (case q1 => repeat (first | exact (Kd.R_reads' HO_372001.out).2.2 | (with_reducible refine Kd.C_alloc ?_ _) | (with_reducible refine Kd.C_drewN ?_ _) | (with_reducible refine Kd.C_drew ?_)))
           (case q2 => exact (Kd.R_reads' HO_372001.out).2.1)
           (case q3 => repeat (first | exact (Kd.V_reads' HO_8.out).2.2 | (with_reducible refine Kd.C_alloc ?_ _) | (with_reducible refine Kd.C_drewN ?_ _) | (with_reducible refine Kd.C_drew ?_)))
           (case q4 => exact (Kd.V_reads' HO_8.out).2.1)
           rintro e w46 ⟨rfl, hb⟩
           refine ⟨_, rfl, ?_⟩
           replace HO_5 := Aside0.mk (Kd.R_below (by (with_reducible repeat (first | apply Kd.R_alloc | apply Kd.R_drewN | apply Kd.R_drew)); exact HO_5.out) hb)
           replace HO_8 := Aside0.mk (Kd.V_below (by (with_reducible repeat (first | apply Kd.V_alloc | apply Kd.V_drewN | apply Kd.V_drew)); exact HO_8.out) hb)
           replace HO_372001 := Aside0.mk (Kd.R_below (by (with_reducible repeat (first | apply Kd.R_alloc | apply Kd.R_drewN | apply Kd.R_drew)); exact HO_372001.out) hb)
           replace BK371 := Z.bb BK371 hb
           replace HB := Z.st (Z.bs HB.out GE371.out) hb
           (try clear hb)
           (try clear hb2)
           (try clear hk)
           (try clear hi)
           refine hK.out _ _ ⟨(blk_cell BK371.out 0).trans rfl, (blk_cell BK371.out 1).trans rfl⟩ (fun hHeld => ?_)
           clear hK K
           refine Z.nm ?_
           refine Z.pv 4 58 16 31 HT_.out ?_
           refine Z.pu 5 59 16 63 HT_.out ?_
           refine Z.pu 6 60 16 127 HT_.out ?_
           refine Z.pu 7 61 16 255 HT_.out ?_
           refine Z.pu 8 62 16 511 HT_.out ?_
           refine Z.pu 9 63 16 1023 HT_.out ?_
           refine Z.pu 10 64 16 2047 HT_.out ?_
           refine Z.pu 11 65 16 4095 HT_.out ?_
           refine Z.pu 12 66 16 8191 HT_.out ?_
           refine Z.pu 13 67 16 16383 HT_.out ?_
           refine Z.pu 14 68 16 32767 HT_.out ?_
           refine Z.pv 15 69 16 65535 HT_.out ?_
           refine done_ (done_of HT_.out (by kernel_rfl)) ?_
           try go_wp2
           go_roundg k3
           case measure => have := HJ2.out; have := HJ8.out; have := HK3.out; omega
           case rel => exact ⟨(wrap64 (x10_3 + 1)), (by first | rfl | (simp; done) | (simp [*]; done)), H', ⟨by have := HJ2.out; have := HJ8.out; have := HK3.out; omega⟩, ⟨by (with_reducible repeat (first | apply Kd.R_alloc | apply Kd.R_drewN | apply Kd.R_drew)); exact HO_5.out⟩, ⟨by (with_reducible repeat (first | apply Kd.V_alloc | apply Kd.V_drewN | apply Kd.V_drew)); exact HO_8.out⟩, ⟨by (with_reducible repeat (first | apply Kd.R_alloc | apply Kd.R_drewN | apply Kd.R_drew)); exact HO_372001.out⟩, ⟨by (with_reducible repeat (first | refine blk_drewN ?_ _ | refine blk_drew ?_ | refine blk_alloc ?_ _)); exact BK371.out⟩, ⟨Z.bs HB.out GE371.out⟩⟩
         ·rw [if_neg c25] at H
          have c25b0 := decide_eq_false c25
          clear c25
          replace H := Option.bind_eq_some_iff.mp H
          obtain ⟨t375, A470, H⟩ := H
          try dsimp only at H
          have A47 := Aside0.mk A470
          clear A470
          obtain rfl := Option.some.inj H
          have hcz48 := Z.c2 BK371.out
          go_wp2_with (first | ((with_reducible refine gate_callee (f := 9) rfl ?_); refine goesL_ (some 70) rfl rfl Try.func9 (by kernel_rfl) rfl #[] rfl Z.ar ?_; (with_reducible refine (laws_alive.calls  t375 _ A47.out).mono ?_); rintro e w' ⟨rfl, ⟨nd, rfl⟩⟩; refine ⟨_, rfl, ?_⟩))
          go_ret
          exact ⟨by first | rfl | (simp [errW_none, errW_some] <;> rfl) | (simp [*, errW_none, errW_some] <;> rfl), Z.bs HB.out GE371.out⟩

/-- THE ONE PURE STATEMENT of laws_FnTrustConsent: yours. -/
def laws_FnTrustConsent.Pure : Prop := ∀ (l0 : List Int) (l1 : List Int), l0.length ≤ maxLen → l0.length * 1 ≤ 140737488351232 → (∀ x ∈ l0, (Lit.int .u8 x).wf = true) → l1.length ≤ maxLen → l1.length * 1 ≤ 140737488351232 → (∀ x ∈ l1, (Lit.int .u8 x).wf = true) → ∃ k, laws_FnTrustConsent.f k l0 l1 = some true
theorem laws_FnTrustConsent.walk (P : laws_FnTrustConsent.Pure) (a0 : Option Addr) (len0 cap0 : Nat) (z0 : List Int) (a1 : Option Addr) (len1 cap1 : Nat) (z1 : List Int) (w : World) (w0 : (a0 = none ∧ len0 = 0 ∧ cap0 = 0 ∧ z0 = []) ∨ ∃ x, a0 = some x ∧ len0 ≤ cap0 ∧ cap0 ≤ maxLen ∧ z0.length = cap0 ∧ (∀ i, i < z0.length → w.cell? (x.add i) = some (.int .u8 (z0.getD i 0))) ∧ ∀ n ∈ z0, (Lit.int .u8 n).wf = true) (y0 : len0 * 1 ≤ 140737488351232) (w1 : (a1 = none ∧ len1 = 0 ∧ cap1 = 0 ∧ z1 = []) ∨ ∃ x, a1 = some x ∧ len1 ≤ cap1 ∧ cap1 ≤ maxLen ∧ z1.length = cap1 ∧ (∀ i, i < z1.length → w.cell? (x.add i) = some (.int .u8 (z1.getD i 0))) ∧ ∀ n ∈ z1, (Lit.int .u8 n).wf = true) (y1 : len1 * 1 ≤ 140737488351232) :
  Calls Try.prog 5 #[.slice a0 len0 cap0, .slice a1 len1 cap1] w fun e w' => e = .returned (.bool true) ∧ Below w.heap.size w w' := by
 obtain ⟨l0, rfl, hr0, hm0, hw0, hc0⟩ := ReadsInt.ofRowC w0
 obtain ⟨l1, rfl, hr1, hm1, hw1, hc1⟩ := ReadsInt.ofRowC w1
 obtain ⟨k, h⟩ := P l0 l1 hm0 y0 hw0 hm1 y1 hw1
 refine (laws_FnTrustConsent.calls k _ _ l0 _ _ l1 true w (Kd.C_of_reads (d := (0 : Int)) (h1 := fun _ => rfl) hr0) hc0 (Kd.C_of_reads (d := (0 : Int)) (h1 := fun _ => rfl) hr1) hc1 h).mono ?_
 rintro e w' ⟨rfl, hd⟩
 exact ⟨rfl, hd⟩

end Go.Proofs.Ytenjngocdinfmaa.PAll

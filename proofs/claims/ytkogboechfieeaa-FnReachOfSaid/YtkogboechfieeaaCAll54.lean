/- Walks of functions that laws of this seat reach, in the form of the print. -/
import Derived.Test.YtkogboechfieeaaCAll0
import Derived.Test.YtkogboechfieeaaCAll1
import Derived.Test.YtkogboechfieeaaCAll22
import Derived.Test.YtkogboechfieeaaCAll26
import Derived.Test.YtkogboechfieeaaCAll29
import Derived.Test.YtkogboechfieeaaCAll41
import Derived.Test.YtkogboechfieeaaCAll6
import Derived.Test.YtkogboechfieeaaCAll72
import Derived.Test.YtkogboechfieeaaZ
-- PRINTED
namespace Go.Proofs.Ytkogboechfieeaa.PAll
open Go.RowKit Go.Proofs.YtkogboechfieeaaW.PrintWords Go.Proofs.YtkogboechfieeaaW.PrintLast Go.Proofs.YtkogboechfieeaaW.PrintMore
attribute [local go_sem] max2_int min2_int max_two min_two max_three min_three max_four min_four
set_option linter.unusedVariables false
set_option linter.unusedSimpArgs false

/-! ### laws_FnReachOf: function 7 -/
mutual
def laws_FnReachOf.l0 : Nat → List Int → Int → List Int → Int → Int → List Int → List (List (S37)) → Option (Bool)
 | 0, _, _, _, _, _, _, _ => none
 | k + 1, x4, x5, x6, x7, x975000, x975001, x975002 => if x7 < (x6.length : Int) then (if 0 ≤ x7 then ((laws_stateOf.f k x975000 x975001 x975002 (rd x6 x7)).bind fun t984 => ((impl_ReachOf.f k x975000 x975001 x975002 t984 x5).bind fun t987 => (laws_FnReachOf.l1 k x4 x5 x6 x7 t987 0 x975000 x975001 x975002))) else (none)) else ((impl_ReachOf.f k x975000 x975001 x975002 x4 (Go.bits .or .i64 x5 1)).bind fun t992 => (laws_FnReachOf.l2 k x4 x6 t992 0 x975000 x975001 x975002))
def laws_FnReachOf.l1 : Nat → List Int → Int → List Int → Int → List Int → Int → Int → List Int → List (List (S37)) → Option (Bool)
 | 0, _, _, _, _, _, _, _, _, _ => none
 | k + 1, x4, x5, x6, x7, x8, x9, x975000, x975001, x975002 => if x9 < (x8.length : Int) then (if 0 ≤ x9 then ((laws_hasInt.f k x6 (rd x8 x9)).bind fun t991 => (if t991 = true then (laws_FnReachOf.l1 k x4 x5 x6 x7 x8 (wrap64 (x9 + 1)) x975000 x975001 x975002) else (some false))) else (none)) else (laws_FnReachOf.l0 k x4 x5 x6 (wrap64 (x7 + 1)) x975000 x975001 x975002)
def laws_FnReachOf.l2 : Nat → List Int → List Int → List Int → Int → Int → List Int → List (List (S37)) → Option (Bool)
 | 0, _, _, _, _, _, _, _ => none
 | k + 1, x4, x6, x10, x11, x975000, x975001, x975002 => if x11 < (x6.length : Int) then (if 0 ≤ x11 then ((laws_hasInt.f k x10 (rd x6 x11)).bind fun t996 => (if t996 = true then (laws_FnReachOf.l2 k x4 x6 x10 (wrap64 (x11 + 1)) x975000 x975001 x975002) else (some false))) else (none)) else ((laws_ascend.f k x6).bind fun t997 => (if t997 = true then ((impl_StateNumber.f k x975000 x975001 x975002 x4).bind fun t998 => ((laws_hasInt.f k x6 t998).bind fun t999 => (some t999))) else (some false)))
end
def laws_FnReachOf.f (k : Nat) (l0 : List Int) : Option (Bool) := if (l0.length : Int) > 1048576 then (some true) else ((spec_DrawReachOf.f k l0).bind fun bt963 => ((impl_ReachOf.f k bt963.1 bt963.2.1 bt963.2.2.1 bt963.2.2.2.1 bt963.2.2.2.2).bind fun t975 => ((spec_ReachOf.f k bt963.1 bt963.2.1 bt963.2.2.1 bt963.2.2.2.1 bt963.2.2.2.2).bind fun t978 => ((laws_sameInts.f k t975 t978).bind fun t981 => (if t981 = true then (if (t975.length : Int) = 0 then ((laws_alive.f).bind fun t982 => (some t982)) else (laws_FnReachOf.l0 k bt963.2.2.2.1 bt963.2.2.2.2 t975 0 bt963.1 bt963.2.1 bt963.2.2.1)) else (some false))))))
def laws_FnReachOf.T12 : Bool × List (List Nat × List Nat) := (true, [([], []), ([], []), ([], []), ([], []), ([2, 3], [2, 3]), ([4], [4]), ([1, 5], [1, 5]), ([], []), ([0, 6, 7, 6], [0, 6, 7]), ([8, 8, 0, 1, 2, 3, 4, 5, 6, 7, 8], [8])])
def laws_FnReachOf.B12 : List Nat := [0, 0, 0, 0, 12, 28, 62, 0, 255, 511]
theorem laws_FnReachOf.tab12 : rtab .any (opsOf Try.f7 12) = laws_FnReachOf.T12 := by kernel_rfl
theorem laws_FnReachOf.bits12 : waitsOk laws_FnReachOf.T12.2 laws_FnReachOf.B12 = true := by kernel_rfl
set_option maxHeartbeats 8000000 in
set_option maxRecDepth 100000 in
theorem laws_FnReachOf.calls (k : Nat) (A0 : Option Addr) (c0 : Nat) (l0 : List Int) (r : Bool) (w : World) (hr0 : Kd.C (Kd.int .u8) w A0 l0.length l0) (hc0 : l0.length ≤ c0) (h : laws_FnReachOf.f k l0 = some r) :
  Calls Try.prog 7 #[.slice A0 l0.length c0] w fun e w' => e = .returned (.bool r) ∧ Below w.heap.size w w' := by
 have hu28 := Try.underlying28
 have HR0 := Z.k hr0
 have HC0 := Z.k hc0
 clear hr0 hc0
 have HB := Z.k (Below.refl w.heap.size w)
 have H := h
 clear h
 unfold laws_FnReachOf.f at H
 by_cases c2 : (l0.length : Int) > 1048576
 ·rw [if_pos c2] at H
  have c2b0 : decide (1048576 < (l0.length : Int)) = true := decide_eq_true c2
  have c2b1 : decide (1048576 < l0.length) = true := decide_eq_true (by omega)
  clear c2
  obtain rfl := Option.some.inj H
  go_enter Try.func7, Try.ntmps7
  go_wp2
  go_ret
  exact ⟨by rfl, Z.bl HB.out⟩
 ·rw [if_neg c2] at H
  have c2b0 : decide (1048576 < (l0.length : Int)) = false := decide_eq_false c2
  have c2b1 : decide (1048576 < l0.length) = false := decide_eq_false (by omega)
  clear c2
  replace H := Option.bind_eq_some_iff.mp H
  obtain ⟨⟨t963, t964, t967, t970, t973⟩, A30, H⟩ := H
  try dsimp only at H
  have A3 := Z.k A30
  clear A30
  replace H := Option.bind_eq_some_iff.mp H
  obtain ⟨t975, A40, H⟩ := H
  have A4 := Z.k A40
  clear A40
  replace H := Option.bind_eq_some_iff.mp H
  obtain ⟨t978, A50, H⟩ := H
  have A5 := Z.k A50
  clear A50
  replace H := Option.bind_eq_some_iff.mp H
  obtain ⟨t981, A60, H⟩ := H
  have A6 := Z.k A60
  clear A60
  by_cases c7 : t981 = true
  ·subst c7
   rw [if_pos rfl] at H
   by_cases c8 : (t975.length : Int) = 0
   ·rw [if_pos c8] at H
    have c8b0 : ((t975.length : Int) == 0) = true := beq_iff_eq.mpr c8
    have c8b1 : ((t975.length : Int) != 0) = false := bne_eq_false_iff_eq.mpr c8
    clear c8
    replace H := Option.bind_eq_some_iff.mp H
    obtain ⟨t982, A90, H⟩ := H
    have A9 := Z.k A90
    clear A90
    obtain rfl := Option.some.inj H
    go_enter Try.func7, Try.ntmps7
    go_wp2_with (first | ((with_reducible refine gate_callee (f := 15) rfl ?_); refine goesL_ (some 17) rfl rfl Try.func15 (by kernel_rfl) rfl #[.slice A0 l0.length c0] rfl Z.ar ?_; (with_reducible refine (spec_DrawReachOf.calls k _ _ l0 t963 t964 t967 t970 t973 _ ?q1 ?q2 A3.out).mono ?_); (case q1 => exact HR0.out); (case q2 => exact HC0.out); rintro e w10 ⟨v965, v968, v971, rfl, ho0, ho1, ho2, hb⟩; refine ⟨_, rfl, ?_⟩; have HO966 := Z.k (Kd.R_lower ho0 (below_size (Z.bl HB.out))); have HO969 := Z.k (Kd.R_lower ho1 (below_size (Z.bl HB.out))); have HO972 := Z.k (Kd.R_lower ho2 (below_size (Z.bl HB.out))); replace HB := Z.st (Z.bl HB.out) hb; (try clear hb ho0 ho1); (try clear ho2)) | ((with_reducible refine gate_dst (N := 3) rfl ?_); refine Z.bx #[.int .i64 0, .slice none 0 0, .slice none 0 0] 28 HB ?_; clear HB; intro gb974 w11 BK974 GE974 HB hg hb; have GW974 := GE974; replace HO966 := Z.k (Kd.R_below HO966.out hb); replace HO969 := Z.k (Kd.R_below HO969.out hb); replace HO972 := Z.k (Kd.R_below HO972.out hb); clear hb hg; have hcz12 := Z.c3 BK974.out; obtain ⟨Ao13, co13, eo13⟩ := Kd.R_slice HO966.out; subst eo13; obtain ⟨Ao14, co14, eo14⟩ := Kd.R_slice HO969.out; subst eo14; obtain ⟨Ao15, co15, eo15⟩ := Kd.R_slice HO972.out; subst eo15) | ((with_reducible refine gate_callee (f := 19) rfl ?_); refine goesL_ (some 24) rfl rfl Try.func19 (by kernel_rfl) rfl #[.agg #[.int .i64 t963, .slice Ao13 t964.length co13, .slice Ao14 t967.length co14], .slice Ao15 t970.length co15, .int .i64 t973] rfl Z.ar ?_; (with_reducible refine (impl_ReachOf.calls k t963 _ _ t964 _ _ t967 _ _ t970 t973 t975 _ ?q1 ?q2 ?q3 ?q4 ?q5 ?q6 A4.out).mono ?_); (case q1 => refine (Kd.R_reads' (e := 3) (base := w.heap.size) (ok := fun k_ => some k_ ≠ (.slice Ao15 t970.length co15 : Value).ownBlock) (n := t964.length) (c := co13) ?_).2.2; exact (Kd.R_mono (Kd.R_far (p := ⟨gb974, 2, none⟩) (Kd.R_far (p := ⟨gb974, 1, none⟩) (Kd.R_far (p := ⟨gb974, 0, none⟩) (Kd.R_types HO966.out BK974.out (by decide)) (fun _ hk => hk.2) (.int .i64 t963)) (fun _ hk => hk.2) (.slice Ao13 t964.length co13)) (fun _ hk => hk.2) (.slice Ao14 t967.length co14)) (fun _ h_ => h_.1))); (case q2 => exact (Kd.R_reads' HO966.out).2.1); (case q3 => refine (Kd.R_reads' (e := 34) (base := w.heap.size) (ok := fun k_ => True) (n := t967.length) (c := co14) ?_).2.2; exact (Kd.R_mono (Kd.R_far (p := ⟨gb974, 2, none⟩) (Kd.R_far (p := ⟨gb974, 1, none⟩) (Kd.R_far (p := ⟨gb974, 0, none⟩) (Kd.R_types HO969.out BK974.out (by decide)) (fun _ hk => hk.2) (.int .i64 t963)) (fun _ hk => hk.2) (.slice Ao13 t964.length co13)) (fun _ hk => hk.2) (.slice Ao14 t967.length co14)) (fun _ h_ => h_.1))); (case q4 => exact (Kd.R_reads' HO969.out).2.1); (case q5 => refine (Kd.R_reads' (e := 3) (base := w.heap.size) (ok := fun k_ => some k_ ≠ (.slice Ao13 t964.length co13 : Value).ownBlock) (n := t970.length) (c := co15) ?_).2.2; exact (Kd.R_mono (Kd.R_far (p := ⟨gb974, 2, none⟩) (Kd.R_far (p := ⟨gb974, 1, none⟩) (Kd.R_far (p := ⟨gb974, 0, none⟩) (Kd.R_types HO972.out BK974.out (by decide)) (fun _ hk => hk.2) (.int .i64 t963)) (fun _ hk => hk.2) (.slice Ao13 t964.length co13)) (fun _ hk => hk.2) (.slice Ao14 t967.length co14)) (fun _ h_ => h_.1))); (case q6 => exact (Kd.R_reads' HO972.out).2.1); rintro e w16 ⟨v976, rfl, ho0, hb⟩; refine ⟨_, rfl, ?_⟩; replace HO969 := Z.k (Kd.R_below (Kd.R_mono (Kd.R_far (p := ⟨gb974, 2, none⟩) (Kd.R_far (p := ⟨gb974, 1, none⟩) (Kd.R_far (p := ⟨gb974, 0, none⟩) (Kd.R_types HO969.out BK974.out (by decide)) (fun _ hk => hk.2) (.int .i64 t963)) (fun _ hk => hk.2) (.slice Ao13 t964.length co13)) (fun _ hk => hk.2) (.slice Ao14 t967.length co14)) (fun _ h_ => h_.1)) hb); have HO977 := Z.k (Kd.R_lower (Kd.R_new' (Kd.R_new' ho0 (Kd.R_lt (Kd.R_mono (Kd.R_far (p := ⟨gb974, 2, none⟩) (Kd.R_far (p := ⟨gb974, 1, none⟩) (Kd.R_far (p := ⟨gb974, 0, none⟩) (Kd.R_types HO966.out BK974.out (by decide)) (fun _ hk => hk.2) (.int .i64 t963)) (fun _ hk => hk.2) (.slice Ao13 t964.length co13)) (fun _ hk => hk.2) (.slice Ao14 t967.length co14)) (fun _ h_ => h_.1)))) (Kd.R_lt (Kd.R_mono (Kd.R_far (p := ⟨gb974, 2, none⟩) (Kd.R_far (p := ⟨gb974, 1, none⟩) (Kd.R_far (p := ⟨gb974, 0, none⟩) (Kd.R_types HO972.out BK974.out (by decide)) (fun _ hk => hk.2) (.int .i64 t963)) (fun _ hk => hk.2) (.slice Ao13 t964.length co13)) (fun _ hk => hk.2) (.slice Ao14 t967.length co14)) (fun _ h_ => h_.1)))) (below_size (Z.bs HB.out GE974.out))); replace HO966 := Z.k (Kd.R_elder' (Kd.R_mono (Kd.R_far (p := ⟨gb974, 2, none⟩) (Kd.R_far (p := ⟨gb974, 1, none⟩) (Kd.R_far (p := ⟨gb974, 0, none⟩) (Kd.R_types HO966.out BK974.out (by decide)) (fun _ hk => hk.2) (.int .i64 t963)) (fun _ hk => hk.2) (.slice Ao13 t964.length co13)) (fun _ hk => hk.2) (.slice Ao14 t967.length co14)) (fun _ h_ => h_.1)) (Kd.R_base ho0) hb); replace HO972 := Z.k (Kd.R_elder' (Kd.R_mono (Kd.R_far (p := ⟨gb974, 2, none⟩) (Kd.R_far (p := ⟨gb974, 1, none⟩) (Kd.R_far (p := ⟨gb974, 0, none⟩) (Kd.R_types HO972.out BK974.out (by decide)) (fun _ hk => hk.2) (.int .i64 t963)) (fun _ hk => hk.2) (.slice Ao13 t964.length co13)) (fun _ hk => hk.2) (.slice Ao14 t967.length co14)) (fun _ h_ => h_.1)) (Kd.R_base ho0) hb); replace BK974 := Z.k (blk_below (g := gb974) (o := .cells #[.int .i64 t963, .slice Ao13 t964.length co13, .slice Ao14 t967.length co14] 28 (0, 0)) (by refine blk_put (cs := #[.int .i64 t963, .slice Ao13 t964.length co13, .slice none 0 0]) ?_ 2 _ rfl; refine blk_put (cs := #[.int .i64 t963, .slice none 0 0, .slice none 0 0]) ?_ 1 _ rfl; refine blk_put (cs := #[.int .i64 0, .slice none 0 0, .slice none 0 0]) ?_ 0 _ rfl; exact BK974.out) hb); replace HB := Z.st (Z.bs HB.out GE974.out) hb; (try clear hb); (try clear ho0); have hcz17 := Z.c3 BK974.out) | ((with_reducible refine gate_callee (f := 37) rfl ?_); refine goesL_ (some 29) rfl rfl Try.func37 (by kernel_rfl) rfl #[.agg #[.int .i64 t963, .slice Ao13 t964.length co13, .slice Ao14 t967.length co14], .slice Ao15 t970.length co15, .int .i64 t973] rfl Z.ar ?_; (with_reducible refine (spec_ReachOf.calls k t963 _ _ t964 _ _ t967 _ _ t970 t973 t978 _ ?q1 ?q2 ?q3 ?q4 ?q5 ?q6 A5.out).mono ?_); (case q1 => exact (Kd.R_reads' HO966.out).2.2); (case q2 => exact (Kd.R_reads' HO966.out).2.1); (case q3 => exact (Kd.R_reads' HO969.out).2.2); (case q4 => exact (Kd.R_reads' HO969.out).2.1); (case q5 => exact (Kd.R_reads' HO972.out).2.2); (case q6 => exact (Kd.R_reads' HO972.out).2.1); rintro e w18 ⟨v979, rfl, ho0, hb⟩; refine ⟨_, rfl, ?_⟩; replace HO969 := Z.k (Kd.R_below HO969.out hb); have HO980 := Z.k (Kd.R_lower (Kd.R_new' (Kd.R_new' (Kd.R_new' ho0 (Kd.R_lt HO966.out)) (Kd.R_lt HO972.out)) (Kd.R_lt HO977.out)) (below_size (Z.bs HB.out GE974.out))); replace HO966 := Z.k (Kd.R_elder' HO966.out (Kd.R_base ho0) hb); replace HO972 := Z.k (Kd.R_elder' HO972.out (Kd.R_base ho0) hb); replace HO977 := Z.k (Kd.R_elder' HO977.out (Kd.R_base ho0) hb); replace BK974 := Z.bb BK974 hb; replace HB := Z.st (Z.bs HB.out GE974.out) hb; (try clear hb); (try clear ho0); obtain ⟨Ao19, co19, eo19⟩ := Kd.R_slice HO977.out; subst eo19; obtain ⟨Ao20, co20, eo20⟩ := Kd.R_slice HO980.out; subst eo20) | ((with_reducible refine gate_callee (f := 34) rfl ?_); refine goesL_ (some 30) rfl rfl Try.func34 (by kernel_rfl) rfl #[.slice Ao19 t975.length co19, .slice Ao20 t978.length co20] rfl Z.ar ?_; (with_reducible refine (laws_sameInts.calls k _ _ t975 _ _ t978 true _ ?q1 ?q2 ?q3 ?q4 A6.out).mono ?_); (case q1 => exact (Kd.R_reads' HO977.out).2.2); (case q2 => exact (Kd.R_reads' HO977.out).2.1); (case q3 => exact (Kd.R_reads' HO980.out).2.2); (case q4 => exact (Kd.R_reads' HO980.out).2.1); rintro e w' ⟨rfl, ⟨nd, rfl⟩⟩; refine ⟨_, rfl, ?_⟩) | ((with_reducible refine gate_callee (f := 18) rfl ?_); refine goesL_ (some 35) rfl rfl Try.func18 (by kernel_rfl) rfl #[] rfl Z.ar ?_; (with_reducible refine (laws_alive.calls  t982 _ A9.out).mono ?_); rintro e w' ⟨rfl, ⟨nd, rfl⟩⟩; refine ⟨_, rfl, ?_⟩))
    go_ret
    exact ⟨by rfl, Z.bs HB.out GE974.out⟩
   ·rw [if_neg c8] at H
    have c8b0 : ((t975.length : Int) == 0) = false := beq_eq_false_iff_ne.mpr c8
    have c8b1 : ((t975.length : Int) != 0) = true := bne_iff_ne.mpr c8
    have c8b2 : ¬ (t975 = []) := fun h_ => c8 (by rw [h_]; rfl)
    have H' := Z.k H
    clear H
    go_enter Try.func7, Try.ntmps7
    go_wp2_with (first | ((with_reducible refine gate_callee (f := 15) rfl ?_); refine goesL_ (some 17) rfl rfl Try.func15 (by kernel_rfl) rfl #[.slice A0 l0.length c0] rfl Z.ar ?_; (with_reducible refine (spec_DrawReachOf.calls k _ _ l0 t963 t964 t967 t970 t973 _ ?q1 ?q2 A3.out).mono ?_); (case q1 => exact HR0.out); (case q2 => exact HC0.out); rintro e w21 ⟨v965, v968, v971, rfl, ho0, ho1, ho2, hb⟩; refine ⟨_, rfl, ?_⟩; have HO966 := Z.k (Kd.R_lower ho0 (below_size (Z.bl HB.out))); have HO969 := Z.k (Kd.R_lower ho1 (below_size (Z.bl HB.out))); have HO972 := Z.k (Kd.R_lower ho2 (below_size (Z.bl HB.out))); replace HB := Z.st (Z.bl HB.out) hb; (try clear hb ho0 ho1); (try clear ho2)) | ((with_reducible refine gate_dst (N := 3) rfl ?_); refine Z.bx #[.int .i64 0, .slice none 0 0, .slice none 0 0] 28 HB ?_; clear HB; intro gb974 w22 BK974 GE974 HB hg hb; have GW974 := GE974; replace HO966 := Z.k (Kd.R_below HO966.out hb); replace HO969 := Z.k (Kd.R_below HO969.out hb); replace HO972 := Z.k (Kd.R_below HO972.out hb); clear hb hg; have hcz23 := Z.c3 BK974.out; obtain ⟨Ao24, co24, eo24⟩ := Kd.R_slice HO966.out; subst eo24; obtain ⟨Ao25, co25, eo25⟩ := Kd.R_slice HO969.out; subst eo25; obtain ⟨Ao26, co26, eo26⟩ := Kd.R_slice HO972.out; subst eo26) | ((with_reducible refine gate_callee (f := 19) rfl ?_); refine goesL_ (some 24) rfl rfl Try.func19 (by kernel_rfl) rfl #[.agg #[.int .i64 t963, .slice Ao24 t964.length co24, .slice Ao25 t967.length co25], .slice Ao26 t970.length co26, .int .i64 t973] rfl Z.ar ?_; (with_reducible refine (impl_ReachOf.calls k t963 _ _ t964 _ _ t967 _ _ t970 t973 t975 _ ?q1 ?q2 ?q3 ?q4 ?q5 ?q6 A4.out).mono ?_); (case q1 => refine (Kd.R_reads' (e := 3) (base := w.heap.size) (ok := fun k_ => some k_ ≠ (.slice Ao26 t970.length co26 : Value).ownBlock) (n := t964.length) (c := co24) ?_).2.2; exact (Kd.R_mono (Kd.R_far (p := ⟨gb974, 2, none⟩) (Kd.R_far (p := ⟨gb974, 1, none⟩) (Kd.R_far (p := ⟨gb974, 0, none⟩) (Kd.R_types HO966.out BK974.out (by decide)) (fun _ hk => hk.2) (.int .i64 t963)) (fun _ hk => hk.2) (.slice Ao24 t964.length co24)) (fun _ hk => hk.2) (.slice Ao25 t967.length co25)) (fun _ h_ => h_.1))); (case q2 => exact (Kd.R_reads' HO966.out).2.1); (case q3 => refine (Kd.R_reads' (e := 34) (base := w.heap.size) (ok := fun k_ => True) (n := t967.length) (c := co25) ?_).2.2; exact (Kd.R_mono (Kd.R_far (p := ⟨gb974, 2, none⟩) (Kd.R_far (p := ⟨gb974, 1, none⟩) (Kd.R_far (p := ⟨gb974, 0, none⟩) (Kd.R_types HO969.out BK974.out (by decide)) (fun _ hk => hk.2) (.int .i64 t963)) (fun _ hk => hk.2) (.slice Ao24 t964.length co24)) (fun _ hk => hk.2) (.slice Ao25 t967.length co25)) (fun _ h_ => h_.1))); (case q4 => exact (Kd.R_reads' HO969.out).2.1); (case q5 => refine (Kd.R_reads' (e := 3) (base := w.heap.size) (ok := fun k_ => some k_ ≠ (.slice Ao24 t964.length co24 : Value).ownBlock) (n := t970.length) (c := co26) ?_).2.2; exact (Kd.R_mono (Kd.R_far (p := ⟨gb974, 2, none⟩) (Kd.R_far (p := ⟨gb974, 1, none⟩) (Kd.R_far (p := ⟨gb974, 0, none⟩) (Kd.R_types HO972.out BK974.out (by decide)) (fun _ hk => hk.2) (.int .i64 t963)) (fun _ hk => hk.2) (.slice Ao24 t964.length co24)) (fun _ hk => hk.2) (.slice Ao25 t967.length co25)) (fun _ h_ => h_.1))); (case q6 => exact (Kd.R_reads' HO972.out).2.1); rintro e w27 ⟨v976, rfl, ho0, hb⟩; refine ⟨_, rfl, ?_⟩; replace HO969 := Z.k (Kd.R_below (Kd.R_mono (Kd.R_far (p := ⟨gb974, 2, none⟩) (Kd.R_far (p := ⟨gb974, 1, none⟩) (Kd.R_far (p := ⟨gb974, 0, none⟩) (Kd.R_types HO969.out BK974.out (by decide)) (fun _ hk => hk.2) (.int .i64 t963)) (fun _ hk => hk.2) (.slice Ao24 t964.length co24)) (fun _ hk => hk.2) (.slice Ao25 t967.length co25)) (fun _ h_ => h_.1)) hb); have HO977 := Z.k (Kd.R_lower (Kd.R_new' (Kd.R_new' ho0 (Kd.R_lt (Kd.R_mono (Kd.R_far (p := ⟨gb974, 2, none⟩) (Kd.R_far (p := ⟨gb974, 1, none⟩) (Kd.R_far (p := ⟨gb974, 0, none⟩) (Kd.R_types HO966.out BK974.out (by decide)) (fun _ hk => hk.2) (.int .i64 t963)) (fun _ hk => hk.2) (.slice Ao24 t964.length co24)) (fun _ hk => hk.2) (.slice Ao25 t967.length co25)) (fun _ h_ => h_.1)))) (Kd.R_lt (Kd.R_mono (Kd.R_far (p := ⟨gb974, 2, none⟩) (Kd.R_far (p := ⟨gb974, 1, none⟩) (Kd.R_far (p := ⟨gb974, 0, none⟩) (Kd.R_types HO972.out BK974.out (by decide)) (fun _ hk => hk.2) (.int .i64 t963)) (fun _ hk => hk.2) (.slice Ao24 t964.length co24)) (fun _ hk => hk.2) (.slice Ao25 t967.length co25)) (fun _ h_ => h_.1)))) (below_size (Z.bs HB.out GE974.out))); replace HO966 := Z.k (Kd.R_elder' (Kd.R_mono (Kd.R_far (p := ⟨gb974, 2, none⟩) (Kd.R_far (p := ⟨gb974, 1, none⟩) (Kd.R_far (p := ⟨gb974, 0, none⟩) (Kd.R_types HO966.out BK974.out (by decide)) (fun _ hk => hk.2) (.int .i64 t963)) (fun _ hk => hk.2) (.slice Ao24 t964.length co24)) (fun _ hk => hk.2) (.slice Ao25 t967.length co25)) (fun _ h_ => h_.1)) (Kd.R_base ho0) hb); replace HO972 := Z.k (Kd.R_elder' (Kd.R_mono (Kd.R_far (p := ⟨gb974, 2, none⟩) (Kd.R_far (p := ⟨gb974, 1, none⟩) (Kd.R_far (p := ⟨gb974, 0, none⟩) (Kd.R_types HO972.out BK974.out (by decide)) (fun _ hk => hk.2) (.int .i64 t963)) (fun _ hk => hk.2) (.slice Ao24 t964.length co24)) (fun _ hk => hk.2) (.slice Ao25 t967.length co25)) (fun _ h_ => h_.1)) (Kd.R_base ho0) hb); replace BK974 := Z.k (blk_below (g := gb974) (o := .cells #[.int .i64 t963, .slice Ao24 t964.length co24, .slice Ao25 t967.length co25] 28 (0, 0)) (by refine blk_put (cs := #[.int .i64 t963, .slice Ao24 t964.length co24, .slice none 0 0]) ?_ 2 _ rfl; refine blk_put (cs := #[.int .i64 t963, .slice none 0 0, .slice none 0 0]) ?_ 1 _ rfl; refine blk_put (cs := #[.int .i64 0, .slice none 0 0, .slice none 0 0]) ?_ 0 _ rfl; exact BK974.out) hb); replace HB := Z.st (Z.bs HB.out GE974.out) hb; (try clear hb); (try clear ho0); have hcz28 := Z.c3 BK974.out) | ((with_reducible refine gate_callee (f := 37) rfl ?_); refine goesL_ (some 29) rfl rfl Try.func37 (by kernel_rfl) rfl #[.agg #[.int .i64 t963, .slice Ao24 t964.length co24, .slice Ao25 t967.length co25], .slice Ao26 t970.length co26, .int .i64 t973] rfl Z.ar ?_; (with_reducible refine (spec_ReachOf.calls k t963 _ _ t964 _ _ t967 _ _ t970 t973 t978 _ ?q1 ?q2 ?q3 ?q4 ?q5 ?q6 A5.out).mono ?_); (case q1 => exact (Kd.R_reads' HO966.out).2.2); (case q2 => exact (Kd.R_reads' HO966.out).2.1); (case q3 => exact (Kd.R_reads' HO969.out).2.2); (case q4 => exact (Kd.R_reads' HO969.out).2.1); (case q5 => exact (Kd.R_reads' HO972.out).2.2); (case q6 => exact (Kd.R_reads' HO972.out).2.1); rintro e w29 ⟨v979, rfl, ho0, hb⟩; refine ⟨_, rfl, ?_⟩; replace HO969 := Z.k (Kd.R_below HO969.out hb); have HO980 := Z.k (Kd.R_lower (Kd.R_new' (Kd.R_new' (Kd.R_new' ho0 (Kd.R_lt HO966.out)) (Kd.R_lt HO972.out)) (Kd.R_lt HO977.out)) (below_size (Z.bs HB.out GE974.out))); replace HO966 := Z.k (Kd.R_elder' HO966.out (Kd.R_base ho0) hb); replace HO972 := Z.k (Kd.R_elder' HO972.out (Kd.R_base ho0) hb); replace HO977 := Z.k (Kd.R_elder' HO977.out (Kd.R_base ho0) hb); replace BK974 := Z.bb BK974 hb; replace HB := Z.st (Z.bs HB.out GE974.out) hb; (try clear hb); (try clear ho0); obtain ⟨Ao30, co30, eo30⟩ := Kd.R_slice HO977.out; subst eo30; obtain ⟨Ao31, co31, eo31⟩ := Kd.R_slice HO980.out; subst eo31) | ((with_reducible refine gate_callee (f := 34) rfl ?_); refine goesL_ (some 30) rfl rfl Try.func34 (by kernel_rfl) rfl #[.slice Ao30 t975.length co30, .slice Ao31 t978.length co31] rfl Z.ar ?_; (with_reducible refine (laws_sameInts.calls k _ _ t975 _ _ t978 true _ ?q1 ?q2 ?q3 ?q4 A6.out).mono ?_); (case q1 => exact (Kd.R_reads' HO977.out).2.2); (case q2 => exact (Kd.R_reads' HO977.out).2.1); (case q3 => exact (Kd.R_reads' HO980.out).2.2); (case q4 => exact (Kd.R_reads' HO980.out).2.1); rintro e w' ⟨rfl, ⟨nd, rfl⟩⟩; refine ⟨_, rfl, ?_⟩))
    go_loopg [7] k (fun kq v7 w' => ∃ (x7_1 : Int), v7 = .int .i64 x7_1 ∧ Aside0 (laws_FnReachOf.l0 kq t970 t973 t975 x7_1 t963 t964 t967 = some r) ∧ Aside0 (kq ≤ k) ∧ Aside0 (Kd.R (Kd.int .i64) 3 w' w.heap.size (fun k_ => some k_ ≠ ((.slice Ao30 t975.length co30) : Value).ownBlock ∧ some k_ ≠ ((.slice Ao24 t964.length co24) : Value).ownBlock) (.slice Ao26 t970.length co26) t970) ∧ Aside0 (Kd.R (Kd.int .i64) 3 w' w.heap.size (fun k_ => some k_ ≠ ((.slice Ao26 t970.length co26) : Value).ownBlock ∧ some k_ ≠ ((.slice Ao24 t964.length co24) : Value).ownBlock) (.slice Ao30 t975.length co30) t975) ∧ Aside0 (Kd.R (Kd.int .i64) 3 w' w.heap.size (fun k_ => some k_ ≠ ((.slice Ao26 t970.length co26) : Value).ownBlock ∧ some k_ ≠ ((.slice Ao30 t975.length co30) : Value).ownBlock) (.slice Ao24 t964.length co24) t964) ∧ Aside0 (Kd.R (Kd.slice 37 k37) 34 w' w.heap.size (fun _ => True) (.slice Ao25 t967.length co25) t967) ∧ Aside0 (w'.heap[gb974]? = some (.cells #[.int .i64 t963, (.slice Ao24 t964.length co24), (.slice Ao25 t967.length co25)] 28 (0, 0))) ∧ Aside0 (Below w.heap.size w w'))
    case atStart => exact ⟨(0), (by rfl), H', ⟨Nat.le_refl _⟩, ⟨by (with_reducible repeat (apply Kd.R_drewN)); exact Kd.R_mono HO972.out (fun _ hk => ⟨hk.1.2, hk.1.1⟩)⟩, ⟨by (with_reducible repeat (apply Kd.R_drewN)); exact Kd.R_mono HO977.out (fun _ hk => ⟨hk.1.2, hk.1.1.2⟩)⟩, ⟨by (with_reducible repeat (apply Kd.R_drewN)); exact Kd.R_mono HO966.out (fun _ hk => ⟨hk.1.1, hk.1.2⟩)⟩, ⟨by (with_reducible repeat (apply Kd.R_drewN)); exact HO969.out⟩, ⟨by (with_reducible repeat (refine blk_drewN ?_ _)); exact BK974.out⟩, ⟨Z.bs HB.out GE974.out⟩⟩
    case round =>
     clear H'
     try clear c2b0
     try clear c2b1
     try clear c8
     try clear c8b0
     try clear c8b1
     try clear c8b2
     obtain ⟨x7_1, rfl, HA, HK1, HO_4, HO_6, HO_975001, HO_975002, BK974, HB⟩ := hrel
     cases gk with
     | zero => exact absurd HA.out (by simp [laws_FnReachOf.l0])
     | succ k1 =>
      have H := HA.out
      clear HA
      simp only [laws_FnReachOf.l0] at H
      by_cases c32 : x7_1 < (t975.length : Int)
      ·rw [if_pos c32] at H
       have c32b0 := decide_eq_true c32
       clear c32
       obtain ⟨c33, H⟩ := Z.ifp H
       have c33b0 : decide (0 ≤ x7_1) = true := decide_eq_true c33
       clear c33
       replace H := Option.bind_eq_some_iff.mp H
       obtain ⟨t984, A340, H⟩ := H
       have A34 := Z.k A340
       clear A340
       replace H := Option.bind_eq_some_iff.mp H
       obtain ⟨t987, A350, H⟩ := H
       have A35 := Z.k A350
       clear A350
       have H' := Z.k H
       clear H
       try go_wp2
       replace HO_4 := Z.k (Kd.R_drew HO_4.out)
       replace HO_6 := Z.k (Kd.R_drew HO_6.out)
       replace HO_975001 := Z.k (Kd.R_drew HO_975001.out)
       replace HO_975002 := Z.k (Kd.R_drew HO_975002.out)
       replace BK974 := Z.k (blk_drew BK974.out)
       replace HB := Z.k (below_drew1 HB.out)
       have p983 : 0 ≤ (x7_1 : Int) := Z.od
       have q983 : x7_1 < (t975.length : Int) := Z.od
       obtain ⟨ad983, e983, hx983_0⟩ := Kd.at_int (Kd.R_reads' HO_6.out).2.2 x7_1 p983 q983
       cases e983
       replace p983 := eq_true p983
       replace q983 := eq_true q983
       refine start_ (n := 10) (S := fun w' => w'.cell? ⟨gb974, 0, none⟩ = some (.int .i64 t963) ∧ w'.cell? ⟨gb974, 1, none⟩ = some (.slice Ao24 t964.length co24) ∧ w'.cell? ⟨gb974, 2, none⟩ = some (.slice Ao25 t967.length co25) ∧ w'.cell? (ad983.add (x7_1).toNat) = some (.int .i64 (rd t975 x7_1))) (ds := []) #[false, false, false, false, false, false, false, false, false, false] (by kernel_rfl) rfl rfl ⟨(blk_cell BK974.out 0).trans rfl, (blk_cell BK974.out 1).trans rfl, (blk_cell BK974.out 2).trans rfl, hx983_0⟩ (fun hHeld => ?_); refine with_tabW laws_FnReachOf.tab12 laws_FnReachOf.bits12 (fun HT_ HW_ => ?_)
       generalize wr.drew = w36 at HO_4 HO_6 HO_975001 HO_975002 BK974 HB hx983_0 hHeld ⊢
       refine Z.pv 2 44 10 4 HT_.out ?_
       refine Z.pv 3 45 10 12 HT_.out ?_
       refine Z.pv 4 46 10 28 HT_.out ?_
       refine Z.pv 7 49 10 156 HT_.out ?_
       refine Z.t4 0 42 10 157 HT_.out HW_.out hHeld ?_
       refine Z.t4 1 43 10 159 HT_.out HW_.out hHeld ?_
       refine Z.t4 5 47 10 191 HT_.out HW_.out hHeld ?_
       refine one_ (i := 6) (N := some 48) (Z.mb 10 255) rfl rfl (one_of HT_.out (by kernel_rfl)) (by decide) (fun K hK => ?_)
       refine goes_ Try.func38 (by kernel_rfl) rfl #[.agg #[.int .i64 t963, .slice Ao24 t964.length co24, .slice Ao25 t967.length co25], .int .i64 (rd t975 x7_1)] (by rfl) rfl rfl Z.ar ?_
       with_reducible refine (laws_stateOf.calls k1 t963 _ _ t964 _ _ t967 (rd t975 x7_1) t984 _ ?q1 ?q2 ?q3 ?q4 A34.out).mono ?_
       (case q1 => exact (Kd.R_reads' HO_975001.out).2.2)
       (case q2 => exact (Kd.R_reads' HO_975001.out).2.1)
       (case q3 => exact (Kd.R_reads' HO_975002.out).2.2)
       (case q4 => exact (Kd.R_reads' HO_975002.out).2.1)
       rintro e w37 ⟨v985, rfl, ho0, hb⟩
       have HS3_ := (hb.cell (World.block_lt_of_cell? _ _ (hHeld.2.2.2))).trans (hHeld.2.2.2)
       refine ⟨_, rfl, ?_⟩
       replace HO_975002 := Z.k (Kd.R_below HO_975002.out hb)
       have HO986 := Z.k (Kd.R_lower (Kd.R_new' (Kd.R_new' (Kd.R_new' ho0 (Kd.R_lt HO_4.out)) (Kd.R_lt HO_6.out)) (Kd.R_lt HO_975001.out)) (below_size (Z.bs HB.out GE974.out)))
       replace HO_4 := Z.k (Kd.R_elder' HO_4.out (Kd.R_base ho0) hb)
       replace HO_6 := Z.k (Kd.R_elder' HO_6.out (Kd.R_base ho0) hb)
       replace HO_975001 := Z.k (Kd.R_elder' HO_975001.out (Kd.R_base ho0) hb)
       replace BK974 := Z.bb BK974 hb
       replace HB := Z.st (Z.bs HB.out GE974.out) hb
       (try clear hb)
       (try clear ho0)
       obtain ⟨Ao38, co38, eo38⟩ := Kd.R_slice HO986.out
       (subst eo38)
       refine hK.out _ _ ⟨(blk_cell BK974.out 0).trans rfl, (blk_cell BK974.out 1).trans rfl, (blk_cell BK974.out 2).trans rfl, HS3_⟩ (fun hHeld => ?_)
       clear hK K
       refine Z.nm ?_
       refine one_ (i := 8) (N := some 50) (Z.mb 10 511) rfl rfl (one_of HT_.out (by kernel_rfl)) (by decide) (fun K hK => ?_)
       refine goes_ Try.func19 (by kernel_rfl) rfl #[.agg #[.int .i64 t963, .slice Ao24 t964.length co24, .slice Ao25 t967.length co25], .slice Ao38 t984.length co38, .int .i64 t973] (by rfl) rfl rfl Z.ar ?_
       with_reducible refine (impl_ReachOf.calls k1 t963 _ _ t964 _ _ t967 _ _ t984 t973 t987 _ ?q1 ?q2 ?q3 ?q4 ?q5 ?q6 A35.out).mono ?_
       (case q1 => exact (Kd.R_reads' HO_975001.out).2.2)
       (case q2 => exact (Kd.R_reads' HO_975001.out).2.1)
       (case q3 => exact (Kd.R_reads' HO_975002.out).2.2)
       (case q4 => exact (Kd.R_reads' HO_975002.out).2.1)
       (case q5 => exact (Kd.R_reads' HO986.out).2.2)
       (case q6 => exact (Kd.R_reads' HO986.out).2.1)
       rintro e w39 ⟨v988, rfl, ho0, hb⟩
       have HS3_ := (hb.cell (World.block_lt_of_cell? _ _ (hHeld.2.2.2))).trans (hHeld.2.2.2)
       refine ⟨_, rfl, ?_⟩
       replace HO_975002 := Z.k (Kd.R_below HO_975002.out hb)
       have HO989 := Z.k (Kd.R_lower (Kd.R_new' (Kd.R_new' (Kd.R_new' (Kd.R_new' ho0 (Kd.R_lt HO_4.out)) (Kd.R_lt HO_6.out)) (Kd.R_lt HO_975001.out)) (Kd.R_lt HO986.out)) (below_size (Z.bs HB.out GE974.out)))
       replace HO_4 := Z.k (Kd.R_elder' HO_4.out (Kd.R_base ho0) hb)
       replace HO_6 := Z.k (Kd.R_elder' HO_6.out (Kd.R_base ho0) hb)
       replace HO_975001 := Z.k (Kd.R_elder' HO_975001.out (Kd.R_base ho0) hb)
       replace HO986 := Z.k (Kd.R_elder' HO986.out (Kd.R_base ho0) hb)
       replace BK974 := Z.bb BK974 hb
       replace HB := Z.st (Z.bs HB.out GE974.out) hb
       (try clear hb)
       (try clear ho0)
       refine hK.out _ _ ⟨(blk_cell BK974.out 0).trans rfl, (blk_cell BK974.out 1).trans rfl, (blk_cell BK974.out 2).trans rfl, HS3_⟩ (fun hHeld => ?_)
       clear hK K
       refine Z.nm ?_
       refine Z.pv 9 8 10 1023 HT_.out ?_
       refine done_ (done_of HT_.out (by kernel_rfl)) ?_
       try go_wp2
       go_loopg [9] k1 (fun kq v9 w' => ∃ (x9_2 : Int), v9 = .int .i64 x9_2 ∧ Aside0 (laws_FnReachOf.l1 kq t970 t973 t975 x7_1 t987 x9_2 t963 t964 t967 = some r) ∧ Aside0 (kq ≤ k1) ∧ Aside0 (Kd.R (Kd.int .i64) 3 w' w.heap.size (fun k_ => some k_ ≠ ((.slice (some ad983) t975.length co30) : Value).ownBlock ∧ some k_ ≠ (v988 : Value).ownBlock ∧ some k_ ≠ ((.slice Ao24 t964.length co24) : Value).ownBlock) (.slice Ao26 t970.length co26) t970) ∧ Aside0 (Kd.R (Kd.int .i64) 3 w' w.heap.size (fun k_ => some k_ ≠ ((.slice Ao26 t970.length co26) : Value).ownBlock ∧ some k_ ≠ (v988 : Value).ownBlock ∧ some k_ ≠ ((.slice Ao24 t964.length co24) : Value).ownBlock) (.slice (some ad983) t975.length co30) t975) ∧ Aside0 (Kd.R (Kd.int .i64) 3 w' w.heap.size (fun k_ => some k_ ≠ ((.slice Ao26 t970.length co26) : Value).ownBlock ∧ some k_ ≠ ((.slice (some ad983) t975.length co30) : Value).ownBlock ∧ some k_ ≠ ((.slice Ao24 t964.length co24) : Value).ownBlock) v988 t987) ∧ Aside0 (Kd.R (Kd.int .i64) 3 w' w.heap.size (fun k_ => some k_ ≠ ((.slice Ao26 t970.length co26) : Value).ownBlock ∧ some k_ ≠ ((.slice (some ad983) t975.length co30) : Value).ownBlock ∧ some k_ ≠ (v988 : Value).ownBlock) (.slice Ao24 t964.length co24) t964) ∧ Aside0 (Kd.R (Kd.slice 37 k37) 34 w' w.heap.size (fun _ => True) (.slice Ao25 t967.length co25) t967) ∧ Aside0 (w'.heap[gb974]? = some (.cells #[.int .i64 t963, (.slice Ao24 t964.length co24), (.slice Ao25 t967.length co25)] 28 (0, 0))) ∧ Aside0 (Below w.heap.size w w'))
       case atStart => exact ⟨(0), (by rfl), H', ⟨Nat.le_refl _⟩, ⟨by exact Kd.R_mono HO_4.out (fun _ hk => ⟨hk.1.1.1, ⟨hk.2, hk.1.1.2⟩⟩)⟩, ⟨by exact Kd.R_mono HO_6.out (fun _ hk => ⟨hk.1.1.1, ⟨hk.2, hk.1.1.2⟩⟩)⟩, ⟨by exact Kd.R_mono HO989.out (fun _ hk => ⟨hk.1.1.1.2, ⟨hk.1.1.2, hk.1.2⟩⟩)⟩, ⟨by exact Kd.R_mono HO_975001.out (fun _ hk => ⟨hk.1.1.1, ⟨hk.1.1.2, hk.2⟩⟩)⟩, ⟨by exact HO_975002.out⟩, ⟨by exact BK974.out⟩, ⟨Z.bs HB.out GE974.out⟩⟩
       case round =>
        clear H'
        try clear c32b0
        try clear c33b0
        try clear hx983_0
        try clear p983
        try clear q983
        obtain ⟨x9_2, rfl, HA, HK2, HO_4, HO_6, HO_8, HO_975001, HO_975002, BK974, HB⟩ := hrel
        cases gk with
        | zero => exact absurd HA.out (by simp [laws_FnReachOf.l1])
        | succ k2 =>
         have H := HA.out
         clear HA
         simp only [laws_FnReachOf.l1] at H
         by_cases c40 : x9_2 < (t987.length : Int)
         ·rw [if_pos c40] at H
          have c40b0 := decide_eq_true c40
          clear c40
          obtain ⟨c41, H⟩ := Z.ifp H
          have c41b0 : decide (0 ≤ x9_2) = true := decide_eq_true c41
          clear c41
          replace H := Option.bind_eq_some_iff.mp H
          obtain ⟨t991, A420, H⟩ := H
          have A42 := Z.k A420
          clear A420
          by_cases c43 : t991 = true
          ·subst c43
           rw [if_pos rfl] at H
           have H' := Z.k H
           clear H
           obtain ⟨Ao44, co44, eo44⟩ := Kd.R_slice HO_8.out
           subst eo44
           have p990 : 0 ≤ (x9_2 : Int) := Z.od
           have q990 : x9_2 < (t987.length : Int) := Z.od
           obtain ⟨ad990, e990, hx990_0⟩ := Kd.at_int (Kd.R_reads' HO_8.out).2.2 x9_2 p990 q990
           cases e990
           replace p990 := eq_true p990
           replace q990 := eq_true q990
           go_wp2_with (((with_reducible refine gate_callee (f := 28) rfl ?_); refine goesL_ (some 62) rfl rfl Try.func28 (by kernel_rfl) rfl #[.slice (some ad983) t975.length co30, .int .i64 (rd t987 x9_2)] rfl Z.ar ?_; (with_reducible refine (laws_hasInt.calls k2 _ _ t975 (rd t987 x9_2) true _ ?q1 ?q2 A42.out).mono ?_); (case q1 => exact (Kd.R_reads' HO_6.out).2.2); (case q2 => exact (Kd.R_reads' HO_6.out).2.1); rintro e w' ⟨rfl, ⟨nd, rfl⟩⟩; refine ⟨_, rfl, ?_⟩))
           go_roundg k2
           case measure => have := HK1.out; have := HK2.out; omega
           case rel => exact ⟨(wrap64 (x9_2 + 1)), (by rfl), H', ⟨by have := HK1.out; have := HK2.out; omega⟩, ⟨by (with_reducible repeat (apply Kd.R_drewN)); exact HO_4.out⟩, ⟨by (with_reducible repeat (apply Kd.R_drewN)); exact HO_6.out⟩, ⟨by (with_reducible repeat (apply Kd.R_drewN)); exact HO_8.out⟩, ⟨by (with_reducible repeat (apply Kd.R_drewN)); exact HO_975001.out⟩, ⟨by (with_reducible repeat (apply Kd.R_drewN)); exact HO_975002.out⟩, ⟨by (with_reducible repeat (refine blk_drewN ?_ _)); exact BK974.out⟩, ⟨Z.bs HB.out GE974.out⟩⟩
          ·replace c43 := Bool.eq_false_iff.mpr c43
           subst c43
           rw [if_neg (show ¬ (false = true) by decide)] at H
           obtain rfl := Option.some.inj H
           obtain ⟨Ao45, co45, eo45⟩ := Kd.R_slice HO_8.out
           subst eo45
           have p990 : 0 ≤ (x9_2 : Int) := Z.od
           have q990 : x9_2 < (t987.length : Int) := Z.od
           obtain ⟨ad990, e990, hx990_0⟩ := Kd.at_int (Kd.R_reads' HO_8.out).2.2 x9_2 p990 q990
           cases e990
           replace p990 := eq_true p990
           replace q990 := eq_true q990
           go_wp2_with (((with_reducible refine gate_callee (f := 28) rfl ?_); refine goesL_ (some 62) rfl rfl Try.func28 (by kernel_rfl) rfl #[.slice (some ad983) t975.length co30, .int .i64 (rd t987 x9_2)] rfl Z.ar ?_; (with_reducible refine (laws_hasInt.calls k2 _ _ t975 (rd t987 x9_2) false _ ?q1 ?q2 A42.out).mono ?_); (case q1 => exact (Kd.R_reads' HO_6.out).2.2); (case q2 => exact (Kd.R_reads' HO_6.out).2.1); rintro e w' ⟨rfl, ⟨nd, rfl⟩⟩; refine ⟨_, rfl, ?_⟩))
           go_ret
           exact ⟨by rfl, Z.bs HB.out GE974.out⟩
         ·rw [if_neg c40] at H
          have c40b0 := decide_eq_false c40
          clear c40
          have H' := Z.k H
          clear H
          obtain ⟨Ao46, co46, eo46⟩ := Kd.R_slice HO_8.out
          subst eo46
          go_wp2
          go_roundg k2
          case measure => have := HK1.out; have := HK2.out; omega
          case rel => exact ⟨(wrap64 (x7_1 + 1)), (by rfl), H', ⟨by have := HK1.out; have := HK2.out; omega⟩, ⟨by exact Kd.R_mono HO_4.out (fun _ hk => ⟨hk.1, hk.2.2⟩)⟩, ⟨by exact Kd.R_mono HO_6.out (fun _ hk => ⟨hk.1, hk.2.2⟩)⟩, ⟨by exact Kd.R_mono HO_975001.out (fun _ hk => ⟨hk.1, hk.2.1⟩)⟩, ⟨by exact HO_975002.out⟩, ⟨by exact BK974.out⟩, ⟨Z.bs HB.out GE974.out⟩⟩
      ·rw [if_neg c32] at H
       have c32b0 := decide_eq_false c32
       clear c32
       replace H := Option.bind_eq_some_iff.mp H
       obtain ⟨t992, A470, H⟩ := H
       have A47 := Z.k A470
       clear A470
       have H' := Z.k H
       clear H
       have hcz48 := Z.c3 BK974.out
       go_wp2_with (((with_reducible refine gate_callee (f := 19) rfl ?_); refine goesL_ (some 68) rfl rfl Try.func19 (by kernel_rfl) rfl #[.agg #[.int .i64 t963, .slice Ao24 t964.length co24, .slice Ao25 t967.length co25], .slice Ao26 t970.length co26, .int .i64 (Go.bits .or .i64 t973 1)] rfl Z.ar ?_; (with_reducible refine (impl_ReachOf.calls k1 t963 _ _ t964 _ _ t967 _ _ t970 (Go.bits .or .i64 t973 1) t992 _ ?q1 ?q2 ?q3 ?q4 ?q5 ?q6 A47.out).mono ?_); (case q1 => exact (Kd.R_reads' HO_975001.out).2.2); (case q2 => exact (Kd.R_reads' HO_975001.out).2.1); (case q3 => exact (Kd.R_reads' HO_975002.out).2.2); (case q4 => exact (Kd.R_reads' HO_975002.out).2.1); (case q5 => exact (Kd.R_reads' HO_4.out).2.2); (case q6 => exact (Kd.R_reads' HO_4.out).2.1); rintro e w49 ⟨v993, rfl, ho0, hb⟩; refine ⟨_, rfl, ?_⟩; replace HO_975002 := Z.k (Kd.R_below HO_975002.out hb); have HO994 := Z.k (Kd.R_lower (Kd.R_new' (Kd.R_new' (Kd.R_new' ho0 (Kd.R_lt HO_4.out)) (Kd.R_lt HO_6.out)) (Kd.R_lt HO_975001.out)) (below_size (Z.bs HB.out GE974.out))); replace HO_4 := Z.k (Kd.R_elder' HO_4.out (Kd.R_base ho0) hb); replace HO_6 := Z.k (Kd.R_elder' HO_6.out (Kd.R_base ho0) hb); replace HO_975001 := Z.k (Kd.R_elder' HO_975001.out (Kd.R_base ho0) hb); replace BK974 := Z.bb BK974 hb; replace HB := Z.st (Z.bs HB.out GE974.out) hb; (try clear hb); (try clear ho0)))
       go_loopg [11] k1 (fun kq v11 w' => ∃ (x11_2 : Int), v11 = .int .i64 x11_2 ∧ Aside0 (laws_FnReachOf.l2 kq t970 t975 t992 x11_2 t963 t964 t967 = some r) ∧ Aside0 (kq ≤ k1) ∧ Aside0 (Kd.R (Kd.int .i64) 3 w' w.heap.size (fun k_ => some k_ ≠ ((.slice Ao30 t975.length co30) : Value).ownBlock ∧ some k_ ≠ (v993 : Value).ownBlock ∧ some k_ ≠ ((.slice Ao24 t964.length co24) : Value).ownBlock) (.slice Ao26 t970.length co26) t970) ∧ Aside0 (Kd.R (Kd.int .i64) 3 w' w.heap.size (fun k_ => some k_ ≠ ((.slice Ao26 t970.length co26) : Value).ownBlock ∧ some k_ ≠ (v993 : Value).ownBlock ∧ some k_ ≠ ((.slice Ao24 t964.length co24) : Value).ownBlock) (.slice Ao30 t975.length co30) t975) ∧ Aside0 (Kd.R (Kd.int .i64) 3 w' w.heap.size (fun k_ => some k_ ≠ ((.slice Ao26 t970.length co26) : Value).ownBlock ∧ some k_ ≠ ((.slice Ao30 t975.length co30) : Value).ownBlock ∧ some k_ ≠ ((.slice Ao24 t964.length co24) : Value).ownBlock) v993 t992) ∧ Aside0 (Kd.R (Kd.int .i64) 3 w' w.heap.size (fun k_ => some k_ ≠ ((.slice Ao26 t970.length co26) : Value).ownBlock ∧ some k_ ≠ ((.slice Ao30 t975.length co30) : Value).ownBlock ∧ some k_ ≠ (v993 : Value).ownBlock) (.slice Ao24 t964.length co24) t964) ∧ Aside0 (Kd.R (Kd.slice 37 k37) 34 w' w.heap.size (fun _ => True) (.slice Ao25 t967.length co25) t967) ∧ Aside0 (w'.heap[gb974]? = some (.cells #[.int .i64 t963, (.slice Ao24 t964.length co24), (.slice Ao25 t967.length co25)] 28 (0, 0))) ∧ Aside0 (Below w.heap.size w w'))
       case atStart => exact ⟨(0), (by rfl), H', ⟨Nat.le_refl _⟩, ⟨by exact Kd.R_mono HO_4.out (fun _ hk => ⟨hk.1.1, ⟨hk.2, hk.1.2⟩⟩)⟩, ⟨by exact Kd.R_mono HO_6.out (fun _ hk => ⟨hk.1.1, ⟨hk.2, hk.1.2⟩⟩)⟩, ⟨by exact Kd.R_mono HO994.out (fun _ hk => ⟨hk.1.1.2, ⟨hk.1.2, hk.2⟩⟩)⟩, ⟨by exact Kd.R_mono HO_975001.out (fun _ hk => ⟨hk.1.1, ⟨hk.1.2, hk.2⟩⟩)⟩, ⟨by exact HO_975002.out⟩, ⟨by exact BK974.out⟩, ⟨Z.bs HB.out GE974.out⟩⟩
       case round =>
        clear H'
        try clear c32b0
        obtain ⟨x11_2, rfl, HA, HK2, HO_4, HO_6, HO_10, HO_975001, HO_975002, BK974, HB⟩ := hrel
        cases gk with
        | zero => exact absurd HA.out (by simp [laws_FnReachOf.l2])
        | succ k2 =>
         have H := HA.out
         clear HA
         simp only [laws_FnReachOf.l2] at H
         by_cases c50 : x11_2 < (t975.length : Int)
         ·rw [if_pos c50] at H
          have c50b0 := decide_eq_true c50
          clear c50
          obtain ⟨c51, H⟩ := Z.ifp H
          have c51b0 : decide (0 ≤ x11_2) = true := decide_eq_true c51
          clear c51
          replace H := Option.bind_eq_some_iff.mp H
          obtain ⟨t996, A520, H⟩ := H
          have A52 := Z.k A520
          clear A520
          by_cases c53 : t996 = true
          ·subst c53
           rw [if_pos rfl] at H
           have H' := Z.k H
           clear H
           have p995 : 0 ≤ (x11_2 : Int) := Z.od
           have q995 : x11_2 < (t975.length : Int) := Z.od
           obtain ⟨ad995, e995, hx995_0⟩ := Kd.at_int (Kd.R_reads' HO_6.out).2.2 x11_2 p995 q995
           cases e995
           replace p995 := eq_true p995
           replace q995 := eq_true q995
           obtain ⟨Ao54, co54, eo54⟩ := Kd.R_slice HO_10.out
           subst eo54
           go_wp2_with (((with_reducible refine gate_callee (f := 28) rfl ?_); refine goesL_ (some 80) rfl rfl Try.func28 (by kernel_rfl) rfl #[.slice Ao54 t992.length co54, .int .i64 (rd t975 x11_2)] rfl Z.ar ?_; (with_reducible refine (laws_hasInt.calls k2 _ _ t992 (rd t975 x11_2) true _ ?q1 ?q2 A52.out).mono ?_); (case q1 => exact (Kd.R_reads' HO_10.out).2.2); (case q2 => exact (Kd.R_reads' HO_10.out).2.1); rintro e w' ⟨rfl, ⟨nd, rfl⟩⟩; refine ⟨_, rfl, ?_⟩))
           go_roundg k2
           case measure => have := HK1.out; have := HK2.out; omega
           case rel => exact ⟨(wrap64 (x11_2 + 1)), (by rfl), H', ⟨by have := HK1.out; have := HK2.out; omega⟩, ⟨by (with_reducible repeat (apply Kd.R_drewN)); exact HO_4.out⟩, ⟨by (with_reducible repeat (apply Kd.R_drewN)); exact HO_6.out⟩, ⟨by (with_reducible repeat (apply Kd.R_drewN)); exact HO_10.out⟩, ⟨by (with_reducible repeat (apply Kd.R_drewN)); exact HO_975001.out⟩, ⟨by (with_reducible repeat (apply Kd.R_drewN)); exact HO_975002.out⟩, ⟨by (with_reducible repeat (refine blk_drewN ?_ _)); exact BK974.out⟩, ⟨Z.bs HB.out GE974.out⟩⟩
          ·replace c53 := Bool.eq_false_iff.mpr c53
           subst c53
           rw [if_neg (show ¬ (false = true) by decide)] at H
           obtain rfl := Option.some.inj H
           have p995 : 0 ≤ (x11_2 : Int) := Z.od
           have q995 : x11_2 < (t975.length : Int) := Z.od
           obtain ⟨ad995, e995, hx995_0⟩ := Kd.at_int (Kd.R_reads' HO_6.out).2.2 x11_2 p995 q995
           cases e995
           replace p995 := eq_true p995
           replace q995 := eq_true q995
           obtain ⟨Ao55, co55, eo55⟩ := Kd.R_slice HO_10.out
           subst eo55
           go_wp2_with (((with_reducible refine gate_callee (f := 28) rfl ?_); refine goesL_ (some 80) rfl rfl Try.func28 (by kernel_rfl) rfl #[.slice Ao55 t992.length co55, .int .i64 (rd t975 x11_2)] rfl Z.ar ?_; (with_reducible refine (laws_hasInt.calls k2 _ _ t992 (rd t975 x11_2) false _ ?q1 ?q2 A52.out).mono ?_); (case q1 => exact (Kd.R_reads' HO_10.out).2.2); (case q2 => exact (Kd.R_reads' HO_10.out).2.1); rintro e w' ⟨rfl, ⟨nd, rfl⟩⟩; refine ⟨_, rfl, ?_⟩))
           go_ret
           exact ⟨by rfl, Z.bs HB.out GE974.out⟩
         ·rw [if_neg c50] at H
          have c50b0 := decide_eq_false c50
          clear c50
          replace H := Option.bind_eq_some_iff.mp H
          obtain ⟨t997, A560, H⟩ := H
          have A56 := Z.k A560
          clear A560
          by_cases c57 : t997 = true
          ·subst c57
           rw [if_pos rfl] at H
           replace H := Option.bind_eq_some_iff.mp H
           obtain ⟨t998, A580, H⟩ := H
           have A58 := Z.k A580
           clear A580
           replace H := Option.bind_eq_some_iff.mp H
           obtain ⟨t999, A590, H⟩ := H
           have A59 := Z.k A590
           clear A590
           obtain rfl := Option.some.inj H
           go_wp2_with (first | ((with_reducible refine gate_callee (f := 39) rfl ?_); refine goesL_ (some 83) rfl rfl Try.func39 (by kernel_rfl) rfl #[.slice Ao30 t975.length co30] rfl Z.ar ?_; (with_reducible refine (laws_ascend.calls k2 _ _ t975 true _ ?q1 ?q2 A56.out).mono ?_); (case q1 => exact (Kd.R_reads' HO_6.out).2.2); (case q2 => exact (Kd.R_reads' HO_6.out).2.1); rintro e w' ⟨rfl, ⟨nd, rfl⟩⟩; refine ⟨_, rfl, ?_⟩; have hcz60 := Z.c3 BK974.out) | (go_at_call 29; (with_reducible refine (impl_StateNumber.calls k2 t963 _ _ t964 _ _ t967 _ _ t970 t998 _ ?q1 ?q2 ?q3 ?q4 ?q5 ?q6 A58.out).mono ?_); (case q1 => exact (Kd.R_reads' HO_975001.out).2.2); (case q2 => exact (Kd.R_reads' HO_975001.out).2.1); (case q3 => exact (Kd.R_reads' HO_975002.out).2.2); (case q4 => exact (Kd.R_reads' HO_975002.out).2.1); (case q5 => exact (Kd.R_reads' HO_4.out).2.2); (case q6 => exact (Kd.R_reads' HO_4.out).2.1); rintro e w61 ⟨rfl, hb⟩; replace HO_4 := Z.k (Kd.R_below (by (with_reducible repeat (apply Kd.R_drewN)); exact HO_4.out) hb); replace HO_6 := Z.k (Kd.R_below (by (with_reducible repeat (apply Kd.R_drewN)); exact HO_6.out) hb); replace HO_10 := Z.k (Kd.R_below (by (with_reducible repeat (apply Kd.R_drewN)); exact HO_10.out) hb); replace HO_975001 := Z.k (Kd.R_below (by (with_reducible repeat (apply Kd.R_drewN)); exact HO_975001.out) hb); replace HO_975002 := Z.k (Kd.R_below (by (with_reducible repeat (apply Kd.R_drewN)); exact HO_975002.out) hb); replace BK974 := Z.bb BK974 hb; replace HB := Z.st (Z.bs HB.out GE974.out) hb; (try clear hb)) | (go_at_call 28; (with_reducible refine (laws_hasInt.calls k2 _ _ t975 t998 t999 _ ?q1 ?q2 A59.out).mono ?_); (case q1 => exact (Kd.R_reads' HO_6.out).2.2); (case q2 => exact (Kd.R_reads' HO_6.out).2.1); rintro e w' ⟨rfl, ⟨nd, rfl⟩⟩))
           go_ret
           exact ⟨by rfl, Z.bs HB.out GE974.out⟩
          ·replace c57 := Bool.eq_false_iff.mpr c57
           subst c57
           rw [if_neg (show ¬ (false = true) by decide)] at H
           obtain rfl := Option.some.inj H
           go_wp2_with (((with_reducible refine gate_callee (f := 39) rfl ?_); refine goesL_ (some 83) rfl rfl Try.func39 (by kernel_rfl) rfl #[.slice Ao30 t975.length co30] rfl Z.ar ?_; (with_reducible refine (laws_ascend.calls k2 _ _ t975 false _ ?q1 ?q2 A56.out).mono ?_); (case q1 => exact (Kd.R_reads' HO_6.out).2.2); (case q2 => exact (Kd.R_reads' HO_6.out).2.1); rintro e w' ⟨rfl, ⟨nd, rfl⟩⟩; refine ⟨_, rfl, ?_⟩))
           go_ret
           exact ⟨by rfl, Z.bs HB.out GE974.out⟩
  ·replace c7 := Bool.eq_false_iff.mpr c7
   subst c7
   rw [if_neg (show ¬ (false = true) by decide)] at H
   obtain rfl := Option.some.inj H
   go_enter Try.func7, Try.ntmps7
   go_wp2_with (first | ((with_reducible refine gate_callee (f := 15) rfl ?_); refine goesL_ (some 17) rfl rfl Try.func15 (by kernel_rfl) rfl #[.slice A0 l0.length c0] rfl Z.ar ?_; (with_reducible refine (spec_DrawReachOf.calls k _ _ l0 t963 t964 t967 t970 t973 _ ?q1 ?q2 A3.out).mono ?_); (case q1 => exact HR0.out); (case q2 => exact HC0.out); rintro e w62 ⟨v965, v968, v971, rfl, ho0, ho1, ho2, hb⟩; refine ⟨_, rfl, ?_⟩; have HO966 := Z.k (Kd.R_lower ho0 (below_size (Z.bl HB.out))); have HO969 := Z.k (Kd.R_lower ho1 (below_size (Z.bl HB.out))); have HO972 := Z.k (Kd.R_lower ho2 (below_size (Z.bl HB.out))); replace HB := Z.st (Z.bl HB.out) hb; (try clear hb ho0 ho1); (try clear ho2)) | ((with_reducible refine gate_dst (N := 3) rfl ?_); refine Z.bx #[.int .i64 0, .slice none 0 0, .slice none 0 0] 28 HB ?_; clear HB; intro gb974 w63 BK974 GE974 HB hg hb; have GW974 := GE974; replace HO966 := Z.k (Kd.R_below HO966.out hb); replace HO969 := Z.k (Kd.R_below HO969.out hb); replace HO972 := Z.k (Kd.R_below HO972.out hb); clear hb hg; have hcz64 := Z.c3 BK974.out; obtain ⟨Ao65, co65, eo65⟩ := Kd.R_slice HO966.out; subst eo65; obtain ⟨Ao66, co66, eo66⟩ := Kd.R_slice HO969.out; subst eo66; obtain ⟨Ao67, co67, eo67⟩ := Kd.R_slice HO972.out; subst eo67) | ((with_reducible refine gate_callee (f := 19) rfl ?_); refine goesL_ (some 24) rfl rfl Try.func19 (by kernel_rfl) rfl #[.agg #[.int .i64 t963, .slice Ao65 t964.length co65, .slice Ao66 t967.length co66], .slice Ao67 t970.length co67, .int .i64 t973] rfl Z.ar ?_; (with_reducible refine (impl_ReachOf.calls k t963 _ _ t964 _ _ t967 _ _ t970 t973 t975 _ ?q1 ?q2 ?q3 ?q4 ?q5 ?q6 A4.out).mono ?_); (case q1 => refine (Kd.R_reads' (e := 3) (base := w.heap.size) (ok := fun k_ => some k_ ≠ (.slice Ao67 t970.length co67 : Value).ownBlock) (n := t964.length) (c := co65) ?_).2.2; exact (Kd.R_mono (Kd.R_far (p := ⟨gb974, 2, none⟩) (Kd.R_far (p := ⟨gb974, 1, none⟩) (Kd.R_far (p := ⟨gb974, 0, none⟩) (Kd.R_types HO966.out BK974.out (by decide)) (fun _ hk => hk.2) (.int .i64 t963)) (fun _ hk => hk.2) (.slice Ao65 t964.length co65)) (fun _ hk => hk.2) (.slice Ao66 t967.length co66)) (fun _ h_ => h_.1))); (case q2 => exact (Kd.R_reads' HO966.out).2.1); (case q3 => refine (Kd.R_reads' (e := 34) (base := w.heap.size) (ok := fun k_ => True) (n := t967.length) (c := co66) ?_).2.2; exact (Kd.R_mono (Kd.R_far (p := ⟨gb974, 2, none⟩) (Kd.R_far (p := ⟨gb974, 1, none⟩) (Kd.R_far (p := ⟨gb974, 0, none⟩) (Kd.R_types HO969.out BK974.out (by decide)) (fun _ hk => hk.2) (.int .i64 t963)) (fun _ hk => hk.2) (.slice Ao65 t964.length co65)) (fun _ hk => hk.2) (.slice Ao66 t967.length co66)) (fun _ h_ => h_.1))); (case q4 => exact (Kd.R_reads' HO969.out).2.1); (case q5 => refine (Kd.R_reads' (e := 3) (base := w.heap.size) (ok := fun k_ => some k_ ≠ (.slice Ao65 t964.length co65 : Value).ownBlock) (n := t970.length) (c := co67) ?_).2.2; exact (Kd.R_mono (Kd.R_far (p := ⟨gb974, 2, none⟩) (Kd.R_far (p := ⟨gb974, 1, none⟩) (Kd.R_far (p := ⟨gb974, 0, none⟩) (Kd.R_types HO972.out BK974.out (by decide)) (fun _ hk => hk.2) (.int .i64 t963)) (fun _ hk => hk.2) (.slice Ao65 t964.length co65)) (fun _ hk => hk.2) (.slice Ao66 t967.length co66)) (fun _ h_ => h_.1))); (case q6 => exact (Kd.R_reads' HO972.out).2.1); rintro e w68 ⟨v976, rfl, ho0, hb⟩; refine ⟨_, rfl, ?_⟩; replace HO969 := Z.k (Kd.R_below (Kd.R_mono (Kd.R_far (p := ⟨gb974, 2, none⟩) (Kd.R_far (p := ⟨gb974, 1, none⟩) (Kd.R_far (p := ⟨gb974, 0, none⟩) (Kd.R_types HO969.out BK974.out (by decide)) (fun _ hk => hk.2) (.int .i64 t963)) (fun _ hk => hk.2) (.slice Ao65 t964.length co65)) (fun _ hk => hk.2) (.slice Ao66 t967.length co66)) (fun _ h_ => h_.1)) hb); have HO977 := Z.k (Kd.R_lower (Kd.R_new' (Kd.R_new' ho0 (Kd.R_lt (Kd.R_mono (Kd.R_far (p := ⟨gb974, 2, none⟩) (Kd.R_far (p := ⟨gb974, 1, none⟩) (Kd.R_far (p := ⟨gb974, 0, none⟩) (Kd.R_types HO966.out BK974.out (by decide)) (fun _ hk => hk.2) (.int .i64 t963)) (fun _ hk => hk.2) (.slice Ao65 t964.length co65)) (fun _ hk => hk.2) (.slice Ao66 t967.length co66)) (fun _ h_ => h_.1)))) (Kd.R_lt (Kd.R_mono (Kd.R_far (p := ⟨gb974, 2, none⟩) (Kd.R_far (p := ⟨gb974, 1, none⟩) (Kd.R_far (p := ⟨gb974, 0, none⟩) (Kd.R_types HO972.out BK974.out (by decide)) (fun _ hk => hk.2) (.int .i64 t963)) (fun _ hk => hk.2) (.slice Ao65 t964.length co65)) (fun _ hk => hk.2) (.slice Ao66 t967.length co66)) (fun _ h_ => h_.1)))) (below_size (Z.bs HB.out GE974.out))); replace HO966 := Z.k (Kd.R_elder' (Kd.R_mono (Kd.R_far (p := ⟨gb974, 2, none⟩) (Kd.R_far (p := ⟨gb974, 1, none⟩) (Kd.R_far (p := ⟨gb974, 0, none⟩) (Kd.R_types HO966.out BK974.out (by decide)) (fun _ hk => hk.2) (.int .i64 t963)) (fun _ hk => hk.2) (.slice Ao65 t964.length co65)) (fun _ hk => hk.2) (.slice Ao66 t967.length co66)) (fun _ h_ => h_.1)) (Kd.R_base ho0) hb); replace HO972 := Z.k (Kd.R_elder' (Kd.R_mono (Kd.R_far (p := ⟨gb974, 2, none⟩) (Kd.R_far (p := ⟨gb974, 1, none⟩) (Kd.R_far (p := ⟨gb974, 0, none⟩) (Kd.R_types HO972.out BK974.out (by decide)) (fun _ hk => hk.2) (.int .i64 t963)) (fun _ hk => hk.2) (.slice Ao65 t964.length co65)) (fun _ hk => hk.2) (.slice Ao66 t967.length co66)) (fun _ h_ => h_.1)) (Kd.R_base ho0) hb); replace BK974 := Z.k (blk_below (g := gb974) (o := .cells #[.int .i64 t963, .slice Ao65 t964.length co65, .slice Ao66 t967.length co66] 28 (0, 0)) (by refine blk_put (cs := #[.int .i64 t963, .slice Ao65 t964.length co65, .slice none 0 0]) ?_ 2 _ rfl; refine blk_put (cs := #[.int .i64 t963, .slice none 0 0, .slice none 0 0]) ?_ 1 _ rfl; refine blk_put (cs := #[.int .i64 0, .slice none 0 0, .slice none 0 0]) ?_ 0 _ rfl; exact BK974.out) hb); replace HB := Z.st (Z.bs HB.out GE974.out) hb; (try clear hb); (try clear ho0); have hcz69 := Z.c3 BK974.out) | ((with_reducible refine gate_callee (f := 37) rfl ?_); refine goesL_ (some 29) rfl rfl Try.func37 (by kernel_rfl) rfl #[.agg #[.int .i64 t963, .slice Ao65 t964.length co65, .slice Ao66 t967.length co66], .slice Ao67 t970.length co67, .int .i64 t973] rfl Z.ar ?_; (with_reducible refine (spec_ReachOf.calls k t963 _ _ t964 _ _ t967 _ _ t970 t973 t978 _ ?q1 ?q2 ?q3 ?q4 ?q5 ?q6 A5.out).mono ?_); (case q1 => exact (Kd.R_reads' HO966.out).2.2); (case q2 => exact (Kd.R_reads' HO966.out).2.1); (case q3 => exact (Kd.R_reads' HO969.out).2.2); (case q4 => exact (Kd.R_reads' HO969.out).2.1); (case q5 => exact (Kd.R_reads' HO972.out).2.2); (case q6 => exact (Kd.R_reads' HO972.out).2.1); rintro e w70 ⟨v979, rfl, ho0, hb⟩; refine ⟨_, rfl, ?_⟩; replace HO969 := Z.k (Kd.R_below HO969.out hb); have HO980 := Z.k (Kd.R_lower (Kd.R_new' (Kd.R_new' (Kd.R_new' ho0 (Kd.R_lt HO966.out)) (Kd.R_lt HO972.out)) (Kd.R_lt HO977.out)) (below_size (Z.bs HB.out GE974.out))); replace HO966 := Z.k (Kd.R_elder' HO966.out (Kd.R_base ho0) hb); replace HO972 := Z.k (Kd.R_elder' HO972.out (Kd.R_base ho0) hb); replace HO977 := Z.k (Kd.R_elder' HO977.out (Kd.R_base ho0) hb); replace BK974 := Z.bb BK974 hb; replace HB := Z.st (Z.bs HB.out GE974.out) hb; (try clear hb); (try clear ho0); obtain ⟨Ao71, co71, eo71⟩ := Kd.R_slice HO977.out; subst eo71; obtain ⟨Ao72, co72, eo72⟩ := Kd.R_slice HO980.out; subst eo72) | ((with_reducible refine gate_callee (f := 34) rfl ?_); refine goesL_ (some 30) rfl rfl Try.func34 (by kernel_rfl) rfl #[.slice Ao71 t975.length co71, .slice Ao72 t978.length co72] rfl Z.ar ?_; (with_reducible refine (laws_sameInts.calls k _ _ t975 _ _ t978 false _ ?q1 ?q2 ?q3 ?q4 A6.out).mono ?_); (case q1 => exact (Kd.R_reads' HO977.out).2.2); (case q2 => exact (Kd.R_reads' HO977.out).2.1); (case q3 => exact (Kd.R_reads' HO980.out).2.2); (case q4 => exact (Kd.R_reads' HO980.out).2.1); rintro e w' ⟨rfl, ⟨nd, rfl⟩⟩; refine ⟨_, rfl, ?_⟩))
   go_ret
   exact ⟨by rfl, Z.bs HB.out GE974.out⟩

/-- THE ONE PURE STATEMENT of laws_FnReachOf: yours. -/
def laws_FnReachOf.Pure : Prop := ∀ (l0 : List Int), l0.length ≤ maxLen → l0.length * 1 ≤ 140737488351232 → (∀ x ∈ l0, (Lit.int .u8 x).wf = true) → ∃ k, laws_FnReachOf.f k l0 = some true
theorem laws_FnReachOf.walk (P : laws_FnReachOf.Pure) (a0 : Option Addr) (len0 cap0 : Nat) (z0 : List Int) (w : World) (w0 : (a0 = none ∧ len0 = 0 ∧ cap0 = 0 ∧ z0 = []) ∨ ∃ x, a0 = some x ∧ len0 ≤ cap0 ∧ cap0 ≤ maxLen ∧ z0.length = cap0 ∧ (∀ i, i < z0.length → w.cell? (x.add i) = some (.int .u8 (z0.getD i 0))) ∧ ∀ n ∈ z0, (Lit.int .u8 n).wf = true) (y0 : len0 * 1 ≤ 140737488351232) :
  Calls Try.prog 7 #[.slice a0 len0 cap0] w fun e w' => e = .returned (.bool true) ∧ Below w.heap.size w w' := by
 obtain ⟨l0, rfl, hr0, hm0, hw0, hc0⟩ := ReadsInt.ofRowC w0
 obtain ⟨k, h⟩ := P l0 hm0 y0 hw0
 refine (laws_FnReachOf.calls k _ _ l0 true w (Kd.C_of_reads (d := (0 : Int)) (h1 := fun _ => rfl) hr0) hc0 h).mono ?_
 rintro e w' ⟨rfl, hd⟩
 exact ⟨rfl, hd⟩

end Go.Proofs.Ytkogboechfieeaa.PAll

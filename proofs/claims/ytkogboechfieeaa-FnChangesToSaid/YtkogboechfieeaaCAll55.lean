/- Walks of functions that laws of this seat reach, in the form of the print. -/
import Derived.Test.YtkogboechfieeaaCAll0
import Derived.Test.YtkogboechfieeaaCAll1
import Derived.Test.YtkogboechfieeaaCAll22
import Derived.Test.YtkogboechfieeaaCAll23
import Derived.Test.YtkogboechfieeaaCAll26
import Derived.Test.YtkogboechfieeaaCAll29
import Derived.Test.YtkogboechfieeaaCAll3
import Derived.Test.YtkogboechfieeaaCAll30
import Derived.Test.YtkogboechfieeaaCAll47
import Derived.Test.YtkogboechfieeaaCAll6
import Derived.Test.YtkogboechfieeaaCAll72
import Derived.Test.YtkogboechfieeaaZ
-- PRINTED
namespace Go.Proofs.Ytkogboechfieeaa.PAll
open Go.RowKit Go.Proofs.YtkogboechfieeaaW.PrintWords Go.Proofs.YtkogboechfieeaaW.PrintLast Go.Proofs.YtkogboechfieeaaW.PrintMore
attribute [local go_sem] max2_int min2_int max_two min_two max_three min_three max_four min_four
set_option linter.unusedVariables false
set_option linter.unusedSimpArgs false

/-! ### laws_FnChangesTo: function 8 -/
mutual
def laws_FnChangesTo.j0 : Nat → List Int → List Int → Bool → Option (Bool)
 | 0, _, _, _ => none
 | k + 1, x0, x1, x24 => if x24 = true then (some true) else ((spec_DrawChangesTo.f k x0).bind fun bt1042 => ((impl_ChangesTo.f k bt1042.1 bt1042.2.1 bt1042.2.2.1 bt1042.2.2.2.1 bt1042.2.2.2.2.1 bt1042.2.2.2.2.2).bind fun t1057 => ((spec_ChangesTo.f k bt1042.1 bt1042.2.1 bt1042.2.2.1 bt1042.2.2.2.1 bt1042.2.2.2.2.1 bt1042.2.2.2.2.2).bind fun t1058 => (if t1057 = t1058 then ((spec_StateOk.f k bt1042.1 bt1042.2.1 bt1042.2.2.1 bt1042.2.2.2.1).bind fun t1059 => (if t1059 = true then ((spec_StateOk.f k bt1042.1 bt1042.2.1 bt1042.2.2.1 bt1042.2.2.2.2.1).bind fun t1060 => (if t1060 = true then ((spec_CrowdOk.f bt1042.1 bt1042.2.2.2.2.2).bind fun t1061 => (laws_FnChangesTo.j1 k x1 bt1042.2.2.2.1 bt1042.2.2.2.2.1 bt1042.2.2.2.2.2 t1057 (!t1061) bt1042.1 bt1042.2.1 bt1042.2.2.1)) else (laws_FnChangesTo.j1 k x1 bt1042.2.2.2.1 bt1042.2.2.2.2.1 bt1042.2.2.2.2.2 t1057 true bt1042.1 bt1042.2.1 bt1042.2.2.1))) else (laws_FnChangesTo.j1 k x1 bt1042.2.2.2.1 bt1042.2.2.2.2.1 bt1042.2.2.2.2.2 t1057 true bt1042.1 bt1042.2.1 bt1042.2.2.1))) else (some false)))))
def laws_FnChangesTo.j1 : Nat → List Int → List Int → List Int → Int → Int → Bool → Int → List Int → List (List (S37)) → Option (Bool)
 | 0, _, _, _, _, _, _, _, _, _ => none
 | k + 1, x1, x6, x7, x8, x9, x61, x1057000, x1057001, x1057002 => if x61 = true then (if x9 = (-1) then ((laws_alive.f).bind fun t1062 => (some t1062)) else (some false)) else ((impl_ReachOf.f k x1057000 x1057001 x1057002 x6 x8).bind fun t1063 => (laws_FnChangesTo.l0 k x1 x6 x7 x8 x9 t1063 0 x1057000 x1057001 x1057002))
def laws_FnChangesTo.l0 : Nat → List Int → List Int → List Int → Int → Int → List Int → Int → Int → List Int → List (List (S37)) → Option (Bool)
 | 0, _, _, _, _, _, _, _, _, _, _ => none
 | k + 1, x1, x6, x7, x8, x9, x10, x11, x1057000, x1057001, x1057002 => if x11 < (x10.length : Int) then (if 0 ≤ x11 then ((laws_stateOf.f k x1057000 x1057001 x1057002 (rd x10 x11)).bind fun t1067 => ((impl_ChangesTo.f k x1057000 x1057001 x1057002 x6 t1067 x8).bind fun t1070 => ((impl_ChangesTo.f k x1057000 x1057001 x1057002 t1067 x7 x8).bind fun t1071 => (if t1070 < 0 then (some false) else (if t1071 ≥ 0 then (if x9 < 0 then (some false) else (if x9 > (wrap64 (t1070 + t1071)) then (some false) else (laws_FnChangesTo.l0 k x1 x6 x7 x8 x9 x10 (wrap64 (x11 + 1)) x1057000 x1057001 x1057002))) else (laws_FnChangesTo.l0 k x1 x6 x7 x8 x9 x10 (wrap64 (x11 + 1)) x1057000 x1057001 x1057002)))))) else (none)) else (if (x1.length : Int) > 0 then (if 0 < (x1.length : Int) then (if x1057000 = 0 then (none) else (laws_FnChangesTo.j3 k x6 x7 x8 x9 x10 (Int.tmod (wrap64 (rd x1 0)) x1057000) x1057000 x1057001 x1057002)) else (none)) else (laws_FnChangesTo.j3 k x6 x7 x8 x9 x10 0 x1057000 x1057001 x1057002))
def laws_FnChangesTo.j3 : Nat → List Int → List Int → Int → Int → List Int → Int → Int → List Int → List (List (S37)) → Option (Bool)
 | 0, _, _, _, _, _, _, _, _, _ => none
 | k + 1, x6, x7, x8, x9, x10, x15, x1057000, x1057001, x1057002 => if 0 ≤ x15 then ((impl_ChangesTo.f k x1057000 x1057001 x1057002 x6 x7 (Go.bits .or .i64 x8 (shl .i64 1 x15))).bind fun t1073 => ((impl_StateNumber.f k x1057000 x1057001 x1057002 x7).bind fun t1074 => ((laws_hasInt.f k x10 t1074).bind fun t1075 => (if ((decide (x9 ≥ 0)) == t1075) = true then ((laws_sameInts.f k x6 x7).bind fun t1076 => (if ((x9 == 0) == t1076) = true then (if x9 < 0 then (some true) else (if t1073 ≥ 0 then (some (decide (t1073 ≤ x9))) else (some false))) else (some false))) else (some false))))) else (none)
end
def laws_FnChangesTo.f (k : Nat) (l0 : List Int) (l1 : List Int) : Option (Bool) := if (l0.length : Int) > 1048576 then (laws_FnChangesTo.j0 k l0 l1 true) else (laws_FnChangesTo.j0 k l0 l1 (decide ((l1.length : Int) > 1048576)))
def laws_FnChangesTo.T20 : Bool × List (List Nat × List Nat) := (true, [([], []), ([0], [0]), ([1], [1]), ([2], [2]), ([], []), ([4], [4]), ([5], [5]), ([3, 6], [3, 6]), ([7, 0, 1, 2, 3, 4, 5, 6, 7], [7])])
def laws_FnChangesTo.B20 : List Nat := [0, 1, 3, 7, 0, 16, 48, 127, 255]
theorem laws_FnChangesTo.tab20 : rtab .any (opsOf Try.f8 20) = laws_FnChangesTo.T20 := by kernel_rfl
theorem laws_FnChangesTo.bits20 : waitsOk laws_FnChangesTo.T20.2 laws_FnChangesTo.B20 = true := by kernel_rfl
def laws_FnChangesTo.T21 : Bool × List (List Nat × List Nat) := (true, [([], []), ([], []), ([], []), ([], []), ([], []), ([4], [4]), ([3, 5], [3, 5]), ([0, 1, 2, 6], [0, 1, 2, 6]), ([7, 7, 0, 1, 2, 3, 4, 5, 6, 7], [7])])
def laws_FnChangesTo.B21 : List Nat := [0, 0, 0, 0, 0, 16, 56, 127, 255]
theorem laws_FnChangesTo.tab21 : rtab .any (opsOf Try.f8 21) = laws_FnChangesTo.T21 := by kernel_rfl
theorem laws_FnChangesTo.bits21 : waitsOk laws_FnChangesTo.T21.2 laws_FnChangesTo.B21 = true := by kernel_rfl
set_option maxHeartbeats 8000000 in
set_option maxRecDepth 100000 in
theorem laws_FnChangesTo.calls (k : Nat) (A0 : Option Addr) (c0 : Nat) (l0 : List Int) (A1 : Option Addr) (c1 : Nat) (l1 : List Int) (r : Bool) (w : World) (hr0 : Kd.C (Kd.int .u8) w A0 l0.length l0) (hc0 : l0.length ≤ c0) (hr1 : Kd.C (Kd.int .u8) w A1 l1.length l1) (hc1 : l1.length ≤ c1) (h : laws_FnChangesTo.f k l0 l1 = some r) :
  Calls Try.prog 8 #[.slice A0 l0.length c0, .slice A1 l1.length c1] w fun e w' => e = .returned (.bool r) ∧ Below w.heap.size w w' := by
 have hu28 := Try.underlying28
 have HR0 := Z.k hr0
 have HC0 := Z.k hc0
 clear hr0 hc0
 have HR1 := Z.k hr1
 have HC1 := Z.k hc1
 clear hr1 hc1
 have HB := Z.k (Below.refl w.heap.size w)
 have H := h
 clear h
 unfold laws_FnChangesTo.f at H
 have HC3 := Z.k H
 clear H
 go_enter Try.func8, Try.ntmps8
 go_upto_region 1 with (fail)
 go_cut [24] (fun v24 wc => ∃ (kq : Nat) (x24_2 : Bool), v24 = .bool x24_2 ∧ Aside0 (laws_FnChangesTo.j0 kq l0 l1 x24_2 = some r) ∧ Aside0 (kq ≤ k) ∧ Aside0 (Below w.heap.size w wc))
 case first =>
  have H := HC3.out
  clear HC3
  by_cases c4 : (l0.length : Int) > 1048576
  ·rw [if_pos c4] at H
   have c4b0 : decide (1048576 < (l0.length : Int)) = true := decide_eq_true c4
   have c4b1 : decide (1048576 < l0.length) = true := decide_eq_true (by omega)
   clear c4
   have H' := Z.k H
   clear H
   go_wp2
   go_meet
   case rel => exact ⟨_, (true), (by rfl), H', ⟨by omega⟩, ⟨Z.bl HB.out⟩⟩
  ·rw [if_neg c4] at H
   have c4b0 : decide (1048576 < (l0.length : Int)) = false := decide_eq_false c4
   have c4b1 : decide (1048576 < l0.length) = false := decide_eq_false (by omega)
   clear c4
   have H' := Z.k H
   clear H
   go_wp2
   go_meet
   case rel => exact ⟨_, (decide ((l1.length : Int) > 1048576)), (by rfl), H', ⟨by omega⟩, ⟨Z.bl HB.out⟩⟩
 case rest =>
  clear HC3
  obtain ⟨kq, x24_2, rfl, HA, HJ2, HB⟩ := hcut
  cases kq with
  | zero => exact absurd HA.out (by simp [laws_FnChangesTo.j0])
  | succ kj2 =>
   have H := HA.out
   clear HA
   simp only [laws_FnChangesTo.j0] at H
   by_cases c5 : x24_2 = true
   ·subst c5
    rw [if_pos rfl] at H
    obtain rfl := Option.some.inj H
    go_wp2
    go_ret
    exact ⟨by rfl, Z.bl HB.out⟩
   ·replace c5 := Bool.eq_false_iff.mpr c5
    subst c5
    rw [if_neg (show ¬ (false = true) by decide)] at H
    replace H := Option.bind_eq_some_iff.mp H
    obtain ⟨⟨t1042, t1043, t1046, t1049, t1052, t1055⟩, A60, H⟩ := H
    try dsimp only at H
    have A6 := Z.k A60
    clear A60
    replace H := Option.bind_eq_some_iff.mp H
    obtain ⟨t1057, A70, H⟩ := H
    have A7 := Z.k A70
    clear A70
    replace H := Option.bind_eq_some_iff.mp H
    obtain ⟨t1058, A80, H⟩ := H
    have A8 := Z.k A80
    clear A80
    by_cases c9 : t1057 = t1058
    ·rw [if_pos c9] at H
     have c9b0 : (t1057 == t1058) = true := beq_iff_eq.mpr c9
     have c9b1 : (t1057 != t1058) = false := bne_eq_false_iff_eq.mpr c9
     clear c9
     have HC10 := Z.k H
     clear H
     go_upto_region 7 with (first | ((with_reducible refine gate_callee (f := 40) rfl ?_); refine goesL_ (some 27) rfl rfl Try.func40 (by kernel_rfl) rfl #[.slice A0 l0.length c0] rfl Z.ar ?_; (with_reducible refine (spec_DrawChangesTo.calls kj2 _ _ l0 t1042 t1043 t1046 t1049 t1052 t1055 _ ?q1 ?q2 A6.out).mono ?_); (case q1 => exact Z.cc HR0 HB); (case q2 => exact HC0.out); rintro e w11 ⟨v1044, v1047, v1050, v1053, rfl, ho0, ho1, ho2, ho3, hb⟩; refine ⟨_, rfl, ?_⟩; have HO1045 := Z.k (Kd.R_lower ho0 (below_size (Z.bl HB.out))); have HO1048 := Z.k (Kd.R_lower ho1 (below_size (Z.bl HB.out))); have HO1051 := Z.k (Kd.R_lower ho2 (below_size (Z.bl HB.out))); have HO1054 := Z.k (Kd.R_lower ho3 (below_size (Z.bl HB.out))); replace HB := Z.st (Z.bl HB.out) hb; (try clear hb ho0 ho1); (try clear ho2); (try clear ho3)) | ((with_reducible refine gate_dst (N := 5) rfl ?_); (try (refine gate_guard (by rfl) ?_; dsimp only)); refine Z.bx #[.int .i64 0, .slice none 0 0, .slice none 0 0] 28 HB ?_; clear HB; intro gb1056 w12 BK1056 GE1056 HB hg hb; have GW1056 := GE1056; replace HO1045 := Z.k (Kd.R_below HO1045.out hb); replace HO1048 := Z.k (Kd.R_below HO1048.out hb); replace HO1051 := Z.k (Kd.R_below HO1051.out hb); replace HO1054 := Z.k (Kd.R_below HO1054.out hb); clear hb hg; have hcz13 := Z.c3 BK1056.out; obtain ⟨Ao14, co14, eo14⟩ := Kd.R_slice HO1045.out; subst eo14; obtain ⟨Ao15, co15, eo15⟩ := Kd.R_slice HO1048.out; subst eo15; obtain ⟨Ao16, co16, eo16⟩ := Kd.R_slice HO1051.out; subst eo16; obtain ⟨Ao17, co17, eo17⟩ := Kd.R_slice HO1054.out; subst eo17) | ((with_reducible refine gate_callee (f := 30) rfl ?_); refine goesL_ (some 36) rfl rfl Try.func30 (by kernel_rfl) rfl #[.agg #[.int .i64 t1042, .slice Ao14 t1043.length co14, .slice Ao15 t1046.length co15], .slice Ao16 t1049.length co16, .slice Ao17 t1052.length co17, .int .i64 t1055] rfl Z.ar ?_; (with_reducible refine (impl_ChangesTo.calls kj2 t1042 _ _ t1043 _ _ t1046 _ _ t1049 _ _ t1052 t1055 t1057 _ ?q1 ?q2 ?q3 ?q4 ?q5 ?q6 ?q7 ?q8 A7.out).mono ?_); (case q1 => refine (Kd.R_reads' (e := 3) (base := w.heap.size) (ok := fun k_ => (some k_ ≠ (.slice Ao16 t1049.length co16 : Value).ownBlock ∧ some k_ ≠ (.slice Ao17 t1052.length co17 : Value).ownBlock)) (n := t1043.length) (c := co14) ?_).2.2; exact (Kd.R_mono (Kd.R_far (p := ⟨gb1056, 2, none⟩) (Kd.R_far (p := ⟨gb1056, 1, none⟩) (Kd.R_far (p := ⟨gb1056, 0, none⟩) (Kd.R_types HO1045.out BK1056.out (by decide)) (fun _ hk => hk.2) (.int .i64 t1042)) (fun _ hk => hk.2) (.slice Ao14 t1043.length co14)) (fun _ hk => hk.2) (.slice Ao15 t1046.length co15)) (fun _ h_ => h_.1))); (case q2 => exact (Kd.R_reads' HO1045.out).2.1); (case q3 => refine (Kd.R_reads' (e := 34) (base := w.heap.size) (ok := fun k_ => True) (n := t1046.length) (c := co15) ?_).2.2; exact (Kd.R_mono (Kd.R_far (p := ⟨gb1056, 2, none⟩) (Kd.R_far (p := ⟨gb1056, 1, none⟩) (Kd.R_far (p := ⟨gb1056, 0, none⟩) (Kd.R_types HO1048.out BK1056.out (by decide)) (fun _ hk => hk.2) (.int .i64 t1042)) (fun _ hk => hk.2) (.slice Ao14 t1043.length co14)) (fun _ hk => hk.2) (.slice Ao15 t1046.length co15)) (fun _ h_ => h_.1))); (case q4 => exact (Kd.R_reads' HO1048.out).2.1); (case q5 => refine (Kd.R_reads' (e := 3) (base := w.heap.size) (ok := fun k_ => (some k_ ≠ (.slice Ao14 t1043.length co14 : Value).ownBlock ∧ some k_ ≠ (.slice Ao17 t1052.length co17 : Value).ownBlock)) (n := t1049.length) (c := co16) ?_).2.2; exact (Kd.R_mono (Kd.R_far (p := ⟨gb1056, 2, none⟩) (Kd.R_far (p := ⟨gb1056, 1, none⟩) (Kd.R_far (p := ⟨gb1056, 0, none⟩) (Kd.R_types HO1051.out BK1056.out (by decide)) (fun _ hk => hk.2) (.int .i64 t1042)) (fun _ hk => hk.2) (.slice Ao14 t1043.length co14)) (fun _ hk => hk.2) (.slice Ao15 t1046.length co15)) (fun _ h_ => h_.1))); (case q6 => exact (Kd.R_reads' HO1051.out).2.1); (case q7 => refine (Kd.R_reads' (e := 3) (base := w.heap.size) (ok := fun k_ => (some k_ ≠ (.slice Ao14 t1043.length co14 : Value).ownBlock ∧ some k_ ≠ (.slice Ao16 t1049.length co16 : Value).ownBlock)) (n := t1052.length) (c := co17) ?_).2.2; exact (Kd.R_mono (Kd.R_far (p := ⟨gb1056, 2, none⟩) (Kd.R_far (p := ⟨gb1056, 1, none⟩) (Kd.R_far (p := ⟨gb1056, 0, none⟩) (Kd.R_types HO1054.out BK1056.out (by decide)) (fun _ hk => hk.2) (.int .i64 t1042)) (fun _ hk => hk.2) (.slice Ao14 t1043.length co14)) (fun _ hk => hk.2) (.slice Ao15 t1046.length co15)) (fun _ h_ => h_.1))); (case q8 => exact (Kd.R_reads' HO1054.out).2.1); rintro e w18 ⟨rfl, hb⟩; refine ⟨_, rfl, ?_⟩; replace HO1045 := Z.k (Kd.R_below (Kd.R_mono (Kd.R_far (p := ⟨gb1056, 2, none⟩) (Kd.R_far (p := ⟨gb1056, 1, none⟩) (Kd.R_far (p := ⟨gb1056, 0, none⟩) (Kd.R_types HO1045.out BK1056.out (by decide)) (fun _ hk => hk.2) (.int .i64 t1042)) (fun _ hk => hk.2) (.slice Ao14 t1043.length co14)) (fun _ hk => hk.2) (.slice Ao15 t1046.length co15)) (fun _ h_ => h_.1)) hb); replace HO1048 := Z.k (Kd.R_below (Kd.R_mono (Kd.R_far (p := ⟨gb1056, 2, none⟩) (Kd.R_far (p := ⟨gb1056, 1, none⟩) (Kd.R_far (p := ⟨gb1056, 0, none⟩) (Kd.R_types HO1048.out BK1056.out (by decide)) (fun _ hk => hk.2) (.int .i64 t1042)) (fun _ hk => hk.2) (.slice Ao14 t1043.length co14)) (fun _ hk => hk.2) (.slice Ao15 t1046.length co15)) (fun _ h_ => h_.1)) hb); replace HO1051 := Z.k (Kd.R_below (Kd.R_mono (Kd.R_far (p := ⟨gb1056, 2, none⟩) (Kd.R_far (p := ⟨gb1056, 1, none⟩) (Kd.R_far (p := ⟨gb1056, 0, none⟩) (Kd.R_types HO1051.out BK1056.out (by decide)) (fun _ hk => hk.2) (.int .i64 t1042)) (fun _ hk => hk.2) (.slice Ao14 t1043.length co14)) (fun _ hk => hk.2) (.slice Ao15 t1046.length co15)) (fun _ h_ => h_.1)) hb); replace HO1054 := Z.k (Kd.R_below (Kd.R_mono (Kd.R_far (p := ⟨gb1056, 2, none⟩) (Kd.R_far (p := ⟨gb1056, 1, none⟩) (Kd.R_far (p := ⟨gb1056, 0, none⟩) (Kd.R_types HO1054.out BK1056.out (by decide)) (fun _ hk => hk.2) (.int .i64 t1042)) (fun _ hk => hk.2) (.slice Ao14 t1043.length co14)) (fun _ hk => hk.2) (.slice Ao15 t1046.length co15)) (fun _ h_ => h_.1)) hb); replace BK1056 := Z.k (blk_below (g := gb1056) (o := .cells #[.int .i64 t1042, .slice Ao14 t1043.length co14, .slice Ao15 t1046.length co15] 28 (0, 0)) (by refine blk_put (cs := #[.int .i64 t1042, .slice Ao14 t1043.length co14, .slice none 0 0]) ?_ 2 _ rfl; refine blk_put (cs := #[.int .i64 t1042, .slice none 0 0, .slice none 0 0]) ?_ 1 _ rfl; refine blk_put (cs := #[.int .i64 0, .slice none 0 0, .slice none 0 0]) ?_ 0 _ rfl; exact BK1056.out) hb); replace HB := Z.st (Z.bs HB.out GE1056.out) hb; (try clear hb); have hcz19 := Z.c3 BK1056.out) | ((with_reducible refine gate_callee (f := 41) rfl ?_); refine goesL_ (some 42) rfl rfl Try.func41 (by kernel_rfl) rfl #[.agg #[.int .i64 t1042, .slice Ao14 t1043.length co14, .slice Ao15 t1046.length co15], .slice Ao16 t1049.length co16, .slice Ao17 t1052.length co17, .int .i64 t1055] rfl Z.ar ?_; (with_reducible refine (spec_ChangesTo.calls kj2 t1042 _ _ t1043 _ _ t1046 _ _ t1049 _ _ t1052 t1055 t1058 _ ?q1 ?q2 ?q3 ?q4 ?q5 ?q6 ?q7 ?q8 A8.out).mono ?_); (case q1 => exact (Kd.R_reads' HO1045.out).2.2); (case q2 => exact (Kd.R_reads' HO1045.out).2.1); (case q3 => exact (Kd.R_reads' HO1048.out).2.2); (case q4 => exact (Kd.R_reads' HO1048.out).2.1); (case q5 => exact (Kd.R_reads' HO1051.out).2.2); (case q6 => exact (Kd.R_reads' HO1051.out).2.1); (case q7 => exact (Kd.R_reads' HO1054.out).2.2); (case q8 => exact (Kd.R_reads' HO1054.out).2.1); rintro e w20 ⟨rfl, hb⟩; refine ⟨_, rfl, ?_⟩; replace HO1045 := Z.k (Kd.R_below HO1045.out hb); replace HO1048 := Z.k (Kd.R_below HO1048.out hb); replace HO1051 := Z.k (Kd.R_below HO1051.out hb); replace HO1054 := Z.k (Kd.R_below HO1054.out hb); replace BK1056 := Z.bb BK1056 hb; replace HB := Z.st (Z.bs HB.out GE1056.out) hb; (try clear hb)))
     go_cut [61] (fun v61 wc => ∃ (kq : Nat) (x61_9 : Bool), v61 = .bool x61_9 ∧ Aside0 (laws_FnChangesTo.j1 kq l1 t1049 t1052 t1055 t1057 x61_9 t1042 t1043 t1046 = some r) ∧ Aside0 (kq ≤ kj2) ∧ Aside0 (Kd.R (Kd.int .i64) 3 wc w.heap.size (fun k_ => some k_ ≠ ((.slice Ao17 t1052.length co17) : Value).ownBlock ∧ some k_ ≠ ((.slice Ao14 t1043.length co14) : Value).ownBlock) (.slice Ao16 t1049.length co16) t1049) ∧ Aside0 (Kd.R (Kd.int .i64) 3 wc w.heap.size (fun k_ => some k_ ≠ ((.slice Ao16 t1049.length co16) : Value).ownBlock ∧ some k_ ≠ ((.slice Ao14 t1043.length co14) : Value).ownBlock) (.slice Ao17 t1052.length co17) t1052) ∧ Aside0 (Kd.R (Kd.int .i64) 3 wc w.heap.size (fun k_ => some k_ ≠ ((.slice Ao16 t1049.length co16) : Value).ownBlock ∧ some k_ ≠ ((.slice Ao17 t1052.length co17) : Value).ownBlock) (.slice Ao14 t1043.length co14) t1043) ∧ Aside0 (Kd.R (Kd.slice 37 k37) 34 wc w.heap.size (fun _ => True) (.slice Ao15 t1046.length co15) t1046) ∧ Aside0 (wc.heap[gb1056]? = some (.cells #[.int .i64 t1042, (.slice Ao14 t1043.length co14), (.slice Ao15 t1046.length co15)] 28 (0, 0))) ∧ Aside0 (Below w.heap.size w wc))
     case first =>
      have H := HC10.out
      clear HC10
      replace H := Option.bind_eq_some_iff.mp H
      obtain ⟨t1059, A210, H⟩ := H
      have A21 := Z.k A210
      clear A210
      by_cases c22 : t1059 = true
      ·subst c22
       rw [if_pos rfl] at H
       replace H := Option.bind_eq_some_iff.mp H
       obtain ⟨t1060, A230, H⟩ := H
       have A23 := Z.k A230
       clear A230
       by_cases c24 : t1060 = true
       ·subst c24
        rw [if_pos rfl] at H
        replace H := Option.bind_eq_some_iff.mp H
        obtain ⟨t1061, A250, H⟩ := H
        have A25 := Z.k A250
        clear A250
        have H' := Z.k H
        clear H
        have hcz26 := Z.c3 BK1056.out
        go_wp2_with (first | ((with_reducible refine gate_callee (f := 16) rfl ?_); refine goesL_ (some 46) rfl rfl Try.func16 (by kernel_rfl) rfl #[.agg #[.int .i64 t1042, .slice Ao14 t1043.length co14, .slice Ao15 t1046.length co15], .slice Ao16 t1049.length co16] rfl Z.ar ?_; (with_reducible refine (spec_StateOk.calls kj2 t1042 _ _ t1043 _ _ t1046 _ _ t1049 true _ ?q1 ?q2 ?q3 ?q4 ?q5 ?q6 A21.out).mono ?_); (case q1 => exact (Kd.R_reads' HO1045.out).2.2); (case q2 => exact (Kd.R_reads' HO1045.out).2.1); (case q3 => exact (Kd.R_reads' HO1048.out).2.2); (case q4 => exact (Kd.R_reads' HO1048.out).2.1); (case q5 => exact (Kd.R_reads' HO1051.out).2.2); (case q6 => exact (Kd.R_reads' HO1051.out).2.1); rintro e w27 ⟨rfl, hb⟩; refine ⟨_, rfl, ?_⟩; replace HO1045 := Z.k (Kd.R_below HO1045.out hb); replace HO1048 := Z.k (Kd.R_below HO1048.out hb); replace HO1051 := Z.k (Kd.R_below HO1051.out hb); replace HO1054 := Z.k (Kd.R_below HO1054.out hb); replace BK1056 := Z.bb BK1056 hb; replace HB := Z.st (Z.bs HB.out GE1056.out) hb; (try clear hb); have hcz28 := Z.c3 BK1056.out) | (go_at_call 16; (with_reducible refine (spec_StateOk.calls kj2 t1042 _ _ t1043 _ _ t1046 _ _ t1052 true _ ?q1 ?q2 ?q3 ?q4 ?q5 ?q6 A23.out).mono ?_); (case q1 => exact (Kd.R_reads' HO1045.out).2.2); (case q2 => exact (Kd.R_reads' HO1045.out).2.1); (case q3 => exact (Kd.R_reads' HO1048.out).2.2); (case q4 => exact (Kd.R_reads' HO1048.out).2.1); (case q5 => exact (Kd.R_reads' HO1054.out).2.2); (case q6 => exact (Kd.R_reads' HO1054.out).2.1); rintro e w29 ⟨rfl, hb⟩; replace HO1045 := Z.k (Kd.R_below HO1045.out hb); replace HO1048 := Z.k (Kd.R_below HO1048.out hb); replace HO1051 := Z.k (Kd.R_below HO1051.out hb); replace HO1054 := Z.k (Kd.R_below HO1054.out hb); replace BK1056 := Z.bb BK1056 hb; replace HB := Z.st (Z.bs HB.out GE1056.out) hb; (try clear hb); have hcz30 := Z.c3 BK1056.out) | (go_at_call 17; (with_reducible refine (spec_CrowdOk.calls t1042 t1055 t1061 _ A25.out).mono ?_); rintro e w' ⟨rfl, ⟨nd, rfl⟩⟩))
        go_meet
        case rel => exact ⟨_, (!t1061), (by rfl), H', ⟨by have := HJ2.out; omega⟩, ⟨by (with_reducible repeat (apply Kd.R_drewN)); exact Kd.R_mono HO1051.out (fun _ hk => ⟨hk.2, hk.1⟩)⟩, ⟨by (with_reducible repeat (apply Kd.R_drewN)); exact Kd.R_mono HO1054.out (fun _ hk => ⟨hk.2, hk.1⟩)⟩, ⟨by (with_reducible repeat (apply Kd.R_drewN)); exact HO1045.out⟩, ⟨by (with_reducible repeat (apply Kd.R_drewN)); exact HO1048.out⟩, ⟨by (with_reducible repeat (refine blk_drewN ?_ _)); exact BK1056.out⟩, ⟨Z.bs HB.out GE1056.out⟩⟩
       ·replace c24 := Bool.eq_false_iff.mpr c24
        subst c24
        rw [if_neg (show ¬ (false = true) by decide)] at H
        have H' := Z.k H
        clear H
        have hcz31 := Z.c3 BK1056.out
        go_wp2_with (first | ((with_reducible refine gate_callee (f := 16) rfl ?_); refine goesL_ (some 46) rfl rfl Try.func16 (by kernel_rfl) rfl #[.agg #[.int .i64 t1042, .slice Ao14 t1043.length co14, .slice Ao15 t1046.length co15], .slice Ao16 t1049.length co16] rfl Z.ar ?_; (with_reducible refine (spec_StateOk.calls kj2 t1042 _ _ t1043 _ _ t1046 _ _ t1049 true _ ?q1 ?q2 ?q3 ?q4 ?q5 ?q6 A21.out).mono ?_); (case q1 => exact (Kd.R_reads' HO1045.out).2.2); (case q2 => exact (Kd.R_reads' HO1045.out).2.1); (case q3 => exact (Kd.R_reads' HO1048.out).2.2); (case q4 => exact (Kd.R_reads' HO1048.out).2.1); (case q5 => exact (Kd.R_reads' HO1051.out).2.2); (case q6 => exact (Kd.R_reads' HO1051.out).2.1); rintro e w32 ⟨rfl, hb⟩; refine ⟨_, rfl, ?_⟩; replace HO1045 := Z.k (Kd.R_below HO1045.out hb); replace HO1048 := Z.k (Kd.R_below HO1048.out hb); replace HO1051 := Z.k (Kd.R_below HO1051.out hb); replace HO1054 := Z.k (Kd.R_below HO1054.out hb); replace BK1056 := Z.bb BK1056 hb; replace HB := Z.st (Z.bs HB.out GE1056.out) hb; (try clear hb); have hcz33 := Z.c3 BK1056.out) | (go_at_call 16; (with_reducible refine (spec_StateOk.calls kj2 t1042 _ _ t1043 _ _ t1046 _ _ t1052 false _ ?q1 ?q2 ?q3 ?q4 ?q5 ?q6 A23.out).mono ?_); (case q1 => exact (Kd.R_reads' HO1045.out).2.2); (case q2 => exact (Kd.R_reads' HO1045.out).2.1); (case q3 => exact (Kd.R_reads' HO1048.out).2.2); (case q4 => exact (Kd.R_reads' HO1048.out).2.1); (case q5 => exact (Kd.R_reads' HO1054.out).2.2); (case q6 => exact (Kd.R_reads' HO1054.out).2.1); rintro e w34 ⟨rfl, hb⟩; replace HO1045 := Z.k (Kd.R_below HO1045.out hb); replace HO1048 := Z.k (Kd.R_below HO1048.out hb); replace HO1051 := Z.k (Kd.R_below HO1051.out hb); replace HO1054 := Z.k (Kd.R_below HO1054.out hb); replace BK1056 := Z.bb BK1056 hb; replace HB := Z.st (Z.bs HB.out GE1056.out) hb; (try clear hb)))
        go_meet
        case rel => exact ⟨_, (true), (by rfl), H', ⟨by have := HJ2.out; omega⟩, ⟨by exact Kd.R_mono HO1051.out (fun _ hk => ⟨hk.2, hk.1⟩)⟩, ⟨by exact Kd.R_mono HO1054.out (fun _ hk => ⟨hk.2, hk.1⟩)⟩, ⟨by exact HO1045.out⟩, ⟨by exact HO1048.out⟩, ⟨by exact BK1056.out⟩, ⟨Z.bs HB.out GE1056.out⟩⟩
      ·replace c22 := Bool.eq_false_iff.mpr c22
       subst c22
       rw [if_neg (show ¬ (false = true) by decide)] at H
       have H' := Z.k H
       clear H
       have hcz35 := Z.c3 BK1056.out
       go_wp2_with (((with_reducible refine gate_callee (f := 16) rfl ?_); refine goesL_ (some 46) rfl rfl Try.func16 (by kernel_rfl) rfl #[.agg #[.int .i64 t1042, .slice Ao14 t1043.length co14, .slice Ao15 t1046.length co15], .slice Ao16 t1049.length co16] rfl Z.ar ?_; (with_reducible refine (spec_StateOk.calls kj2 t1042 _ _ t1043 _ _ t1046 _ _ t1049 false _ ?q1 ?q2 ?q3 ?q4 ?q5 ?q6 A21.out).mono ?_); (case q1 => exact (Kd.R_reads' HO1045.out).2.2); (case q2 => exact (Kd.R_reads' HO1045.out).2.1); (case q3 => exact (Kd.R_reads' HO1048.out).2.2); (case q4 => exact (Kd.R_reads' HO1048.out).2.1); (case q5 => exact (Kd.R_reads' HO1051.out).2.2); (case q6 => exact (Kd.R_reads' HO1051.out).2.1); rintro e w36 ⟨rfl, hb⟩; refine ⟨_, rfl, ?_⟩; replace HO1045 := Z.k (Kd.R_below HO1045.out hb); replace HO1048 := Z.k (Kd.R_below HO1048.out hb); replace HO1051 := Z.k (Kd.R_below HO1051.out hb); replace HO1054 := Z.k (Kd.R_below HO1054.out hb); replace BK1056 := Z.bb BK1056 hb; replace HB := Z.st (Z.bs HB.out GE1056.out) hb; (try clear hb)))
       go_meet
       case rel => exact ⟨_, (true), (by rfl), H', ⟨by have := HJ2.out; omega⟩, ⟨by exact Kd.R_mono HO1051.out (fun _ hk => ⟨hk.2, hk.1⟩)⟩, ⟨by exact Kd.R_mono HO1054.out (fun _ hk => ⟨hk.2, hk.1⟩)⟩, ⟨by exact HO1045.out⟩, ⟨by exact HO1048.out⟩, ⟨by exact BK1056.out⟩, ⟨Z.bs HB.out GE1056.out⟩⟩
     case rest =>
      clear HC10
      try clear c9b0
      try clear c9b1
      obtain ⟨kq, x61_9, rfl, HA, HJ9, HO_6, HO_7, HO_1057001, HO_1057002, BK1056, HB⟩ := hcut
      cases kq with
      | zero => exact absurd HA.out (by simp [laws_FnChangesTo.j1])
      | succ kj9 =>
       have H := HA.out
       clear HA
       simp only [laws_FnChangesTo.j1] at H
       by_cases c37 : x61_9 = true
       ·subst c37
        rw [if_pos rfl] at H
        by_cases c38 : t1057 = (-1)
        ·rw [if_pos c38] at H
         have c38b0 : (t1057 == (-1)) = true := beq_iff_eq.mpr c38
         have c38b1 : (t1057 != (-1)) = false := bne_eq_false_iff_eq.mpr c38
         clear c38
         replace H := Option.bind_eq_some_iff.mp H
         obtain ⟨t1062, A390, H⟩ := H
         have A39 := Z.k A390
         clear A390
         obtain rfl := Option.some.inj H
         go_wp2_with ((go_at_call 18; (with_reducible refine (laws_alive.calls  t1062 _ A39.out).mono ?_); rintro e w' ⟨rfl, ⟨nd, rfl⟩⟩))
         go_ret
         exact ⟨by rfl, Z.bs HB.out GE1056.out⟩
        ·rw [if_neg c38] at H
         have c38b0 : (t1057 == (-1)) = false := beq_eq_false_iff_ne.mpr c38
         have c38b1 : (t1057 != (-1)) = true := bne_iff_ne.mpr c38
         obtain rfl := Option.some.inj H
         go_wp2
         go_ret
         exact ⟨by rfl, Z.bs HB.out GE1056.out⟩
       ·replace c37 := Bool.eq_false_iff.mpr c37
        subst c37
        rw [if_neg (show ¬ (false = true) by decide)] at H
        replace H := Option.bind_eq_some_iff.mp H
        obtain ⟨t1063, A400, H⟩ := H
        have A40 := Z.k A400
        clear A400
        have H' := Z.k H
        clear H
        have hcz41 := Z.c3 BK1056.out
        go_wp2_with (((with_reducible refine gate_callee (f := 19) rfl ?_); refine goesL_ (some 70) rfl rfl Try.func19 (by kernel_rfl) rfl #[.agg #[.int .i64 t1042, .slice Ao14 t1043.length co14, .slice Ao15 t1046.length co15], .slice Ao16 t1049.length co16, .int .i64 t1055] rfl Z.ar ?_; (with_reducible refine (impl_ReachOf.calls kj9 t1042 _ _ t1043 _ _ t1046 _ _ t1049 t1055 t1063 _ ?q1 ?q2 ?q3 ?q4 ?q5 ?q6 A40.out).mono ?_); (case q1 => exact (Kd.R_reads' HO_1057001.out).2.2); (case q2 => exact (Kd.R_reads' HO_1057001.out).2.1); (case q3 => exact (Kd.R_reads' HO_1057002.out).2.2); (case q4 => exact (Kd.R_reads' HO_1057002.out).2.1); (case q5 => exact (Kd.R_reads' HO_6.out).2.2); (case q6 => exact (Kd.R_reads' HO_6.out).2.1); rintro e w42 ⟨v1064, rfl, ho0, hb⟩; refine ⟨_, rfl, ?_⟩; replace HO_1057002 := Z.k (Kd.R_below HO_1057002.out hb); have HO1065 := Z.k (Kd.R_lower (Kd.R_new' (Kd.R_new' (Kd.R_new' ho0 (Kd.R_lt HO_6.out)) (Kd.R_lt HO_7.out)) (Kd.R_lt HO_1057001.out)) (below_size (Z.bs HB.out GE1056.out))); replace HO_6 := Z.k (Kd.R_elder' HO_6.out (Kd.R_base ho0) hb); replace HO_7 := Z.k (Kd.R_elder' HO_7.out (Kd.R_base ho0) hb); replace HO_1057001 := Z.k (Kd.R_elder' HO_1057001.out (Kd.R_base ho0) hb); replace BK1056 := Z.bb BK1056 hb; replace HB := Z.st (Z.bs HB.out GE1056.out) hb; (try clear hb); (try clear ho0)))
        go_loopg [11] kj9 (fun kq v11 w' => ∃ (x11_3 : Int), v11 = .int .i64 x11_3 ∧ Aside0 (laws_FnChangesTo.l0 kq l1 t1049 t1052 t1055 t1057 t1063 x11_3 t1042 t1043 t1046 = some r) ∧ Aside0 (kq ≤ kj9) ∧ Aside0 (Kd.R (Kd.int .i64) 3 w' w.heap.size (fun k_ => some k_ ≠ ((.slice Ao17 t1052.length co17) : Value).ownBlock ∧ some k_ ≠ (v1064 : Value).ownBlock ∧ some k_ ≠ ((.slice Ao14 t1043.length co14) : Value).ownBlock) (.slice Ao16 t1049.length co16) t1049) ∧ Aside0 (Kd.R (Kd.int .i64) 3 w' w.heap.size (fun k_ => some k_ ≠ ((.slice Ao16 t1049.length co16) : Value).ownBlock ∧ some k_ ≠ (v1064 : Value).ownBlock ∧ some k_ ≠ ((.slice Ao14 t1043.length co14) : Value).ownBlock) (.slice Ao17 t1052.length co17) t1052) ∧ Aside0 (Kd.R (Kd.int .i64) 3 w' w.heap.size (fun k_ => some k_ ≠ ((.slice Ao16 t1049.length co16) : Value).ownBlock ∧ some k_ ≠ ((.slice Ao17 t1052.length co17) : Value).ownBlock ∧ some k_ ≠ ((.slice Ao14 t1043.length co14) : Value).ownBlock) v1064 t1063) ∧ Aside0 (Kd.R (Kd.int .i64) 3 w' w.heap.size (fun k_ => some k_ ≠ ((.slice Ao16 t1049.length co16) : Value).ownBlock ∧ some k_ ≠ ((.slice Ao17 t1052.length co17) : Value).ownBlock ∧ some k_ ≠ (v1064 : Value).ownBlock) (.slice Ao14 t1043.length co14) t1043) ∧ Aside0 (Kd.R (Kd.slice 37 k37) 34 w' w.heap.size (fun _ => True) (.slice Ao15 t1046.length co15) t1046) ∧ Aside0 (w'.heap[gb1056]? = some (.cells #[.int .i64 t1042, (.slice Ao14 t1043.length co14), (.slice Ao15 t1046.length co15)] 28 (0, 0))) ∧ Aside0 (Below w.heap.size w w'))
        case atStart => exact ⟨(0), (by rfl), H', ⟨Nat.le_refl _⟩, ⟨by exact Kd.R_mono HO_6.out (fun _ hk => ⟨hk.1.1, ⟨hk.2, hk.1.2⟩⟩)⟩, ⟨by exact Kd.R_mono HO_7.out (fun _ hk => ⟨hk.1.1, ⟨hk.2, hk.1.2⟩⟩)⟩, ⟨by exact Kd.R_mono HO1065.out (fun _ hk => ⟨hk.1.1.2, ⟨hk.1.2, hk.2⟩⟩)⟩, ⟨by exact Kd.R_mono HO_1057001.out (fun _ hk => ⟨hk.1.1, ⟨hk.1.2, hk.2⟩⟩)⟩, ⟨by exact HO_1057002.out⟩, ⟨by exact BK1056.out⟩, ⟨Z.bs HB.out GE1056.out⟩⟩
        case round =>
         clear H'
         obtain ⟨x11_3, rfl, HA, HK3, HO_6, HO_7, HO_10, HO_1057001, HO_1057002, BK1056, HB⟩ := hrel
         cases gk with
         | zero => exact absurd HA.out (by simp [laws_FnChangesTo.l0])
         | succ k3 =>
          have H := HA.out
          clear HA
          simp only [laws_FnChangesTo.l0] at H
          by_cases c43 : x11_3 < (t1063.length : Int)
          ·rw [if_pos c43] at H
           have c43b0 := decide_eq_true c43
           clear c43
           obtain ⟨c44, H⟩ := Z.ifp H
           have c44b0 : decide (0 ≤ x11_3) = true := decide_eq_true c44
           clear c44
           replace H := Option.bind_eq_some_iff.mp H
           obtain ⟨t1067, A450, H⟩ := H
           have A45 := Z.k A450
           clear A450
           replace H := Option.bind_eq_some_iff.mp H
           obtain ⟨t1070, A460, H⟩ := H
           have A46 := Z.k A460
           clear A460
           replace H := Option.bind_eq_some_iff.mp H
           obtain ⟨t1071, A470, H⟩ := H
           have A47 := Z.k A470
           clear A470
           by_cases c48 : t1070 < 0
           ·rw [if_pos c48] at H
            have c48b0 := decide_eq_true c48
            clear c48
            obtain rfl := Option.some.inj H
            obtain ⟨Ao49, co49, eo49⟩ := Kd.R_slice HO_10.out
            subst eo49
            try go_wp2
            replace HO_6 := Z.k (Kd.R_drew HO_6.out)
            replace HO_7 := Z.k (Kd.R_drew HO_7.out)
            replace HO_10 := Z.k (Kd.R_drew HO_10.out)
            replace HO_1057001 := Z.k (Kd.R_drew HO_1057001.out)
            replace HO_1057002 := Z.k (Kd.R_drew HO_1057002.out)
            replace BK1056 := Z.k (blk_drew BK1056.out)
            replace HB := Z.k (below_drew1 HB.out)
            have p1066 : 0 ≤ (x11_3 : Int) := Z.od
            have q1066 : x11_3 < (t1063.length : Int) := Z.od
            obtain ⟨ad1066, e1066, hx1066_0⟩ := Kd.at_int (Kd.R_reads' HO_10.out).2.2 x11_3 p1066 q1066
            cases e1066
            replace p1066 := eq_true p1066
            replace q1066 := eq_true q1066
            refine start_ (n := 7) (S := fun w' => w'.cell? ⟨gb1056, 0, none⟩ = some (.int .i64 t1042) ∧ w'.cell? ⟨gb1056, 1, none⟩ = some (.slice Ao14 t1043.length co14) ∧ w'.cell? ⟨gb1056, 2, none⟩ = some (.slice Ao15 t1046.length co15) ∧ w'.cell? (ad1066.add (x11_3).toNat) = some (.int .i64 (rd t1063 x11_3))) (ds := []) #[false, false, false, false, false, false, false] (by kernel_rfl) rfl rfl ⟨(blk_cell BK1056.out 0).trans rfl, (blk_cell BK1056.out 1).trans rfl, (blk_cell BK1056.out 2).trans rfl, hx1066_0⟩ (fun hHeld => ?_)
            generalize wr.drew = w50 at HO_6 HO_7 HO_10 HO_1057001 HO_1057002 BK1056 HB hx1066_0 hHeld ⊢
            refine pure_ (i := 1) (N := some 78) (v := ?_) (a' := ?_) #[false, true, false, false, false, false, false] rfl rfl (by kernel_rfl) (fun _ _ _ h => h) (Or.inl ⟨by rfl, ?_⟩) ?_ ?_
            rotate_left
            ·intro w'
             go_simp
             with_reducible rfl
            rotate_left
            ·simp only [Act.put, List.setIfInBounds_toArray, List.set_cons_zero, List.set_cons_succ, i64_w, i32_w]
             rfl
            refine pure_ (i := 2) (N := some 79) (v := ?_) (a' := ?_) #[false, true, true, false, false, false, false] rfl rfl (by kernel_rfl) (fun _ _ _ h => h) (Or.inl ⟨by rfl, ?_⟩) ?_ ?_
            rotate_left
            ·intro w'
             go_simp
             with_reducible rfl
            rotate_left
            ·simp only [Act.put, List.setIfInBounds_toArray, List.set_cons_zero, List.set_cons_succ, i64_w, i32_w]
             rfl
            refine pure_ (i := 3) (N := some 80) (v := ?_) (a' := ?_) #[false, true, true, true, false, false, false] rfl rfl (by kernel_rfl) (fun _ _ _ h => h) (Or.inl ⟨by rfl, ?_⟩) ?_ ?_
            rotate_left
            ·intro w'
             go_simp
             with_reducible rfl
            rotate_left
            ·simp only [Act.put, List.setIfInBounds_toArray, List.set_cons_zero, List.set_cons_succ, i64_w, i32_w]
             rfl
            refine take_ (i := 0) (N := some 77) (v := ?_) (a' := ?_) #[true, true, true, true, false, false, false] rfl rfl (by kernel_rfl) (fun _ _ _ h => h) (Or.inl ⟨by rfl, ?_⟩) hHeld ?_ ?_
            rotate_left
            ·rintro w' ⟨s0, s1, s2, s3⟩
             go_simp
             with_reducible rfl
            rotate_left
            ·simp only [Act.put, List.setIfInBounds_toArray, List.set_cons_zero, List.set_cons_succ, i64_w, i32_w]
             rfl
            refine take_ (i := 4) (N := some 81) (v := ?_) (a' := ?_) #[true, true, true, true, true, false, false] rfl rfl (by kernel_rfl) (fun _ _ _ h => h) (Or.inl ⟨by rfl, ?_⟩) hHeld ?_ ?_
            rotate_left
            ·rintro w' ⟨s0, s1, s2, s3⟩
             go_simp
             with_reducible rfl
            rotate_left
            ·simp only [Act.put, List.setIfInBounds_toArray, List.set_cons_zero, List.set_cons_succ, i64_w, i32_w]
             rfl
            refine one_ (i := 5) (N := some 82) (Z.mb 7 63) rfl rfl (by kernel_rfl) (by decide) (fun K hK => ?_)
            refine goes_ Try.func38 (by kernel_rfl) rfl #[.agg #[.int .i64 t1042, .slice Ao14 t1043.length co14, .slice Ao15 t1046.length co15], .int .i64 (rd t1063 x11_3)] (by rfl) rfl rfl Z.ar ?_
            with_reducible refine (laws_stateOf.calls k3 t1042 _ _ t1043 _ _ t1046 (rd t1063 x11_3) t1067 _ ?q1 ?q2 ?q3 ?q4 A45.out).mono ?_
            (case q1 => exact (Kd.R_reads' HO_1057001.out).2.2)
            (case q2 => exact (Kd.R_reads' HO_1057001.out).2.1)
            (case q3 => exact (Kd.R_reads' HO_1057002.out).2.2)
            (case q4 => exact (Kd.R_reads' HO_1057002.out).2.1)
            rintro e w51 ⟨v1068, rfl, ho0, hb⟩
            have HS3_ := (hb.cell (World.block_lt_of_cell? _ _ (hHeld.2.2.2))).trans (hHeld.2.2.2)
            refine ⟨_, rfl, ?_⟩
            replace HO_1057002 := Z.k (Kd.R_below HO_1057002.out hb)
            have HO1069 := Z.k (Kd.R_lower (Kd.R_new' (Kd.R_new' (Kd.R_new' (Kd.R_new' ho0 (Kd.R_lt HO_6.out)) (Kd.R_lt HO_7.out)) (Kd.R_lt HO_10.out)) (Kd.R_lt HO_1057001.out)) (below_size (Z.bs HB.out GE1056.out)))
            replace HO_6 := Z.k (Kd.R_elder' HO_6.out (Kd.R_base ho0) hb)
            replace HO_7 := Z.k (Kd.R_elder' HO_7.out (Kd.R_base ho0) hb)
            replace HO_10 := Z.k (Kd.R_elder' HO_10.out (Kd.R_base ho0) hb)
            replace HO_1057001 := Z.k (Kd.R_elder' HO_1057001.out (Kd.R_base ho0) hb)
            replace BK1056 := Z.bb BK1056 hb
            replace HB := Z.st (Z.bs HB.out GE1056.out) hb
            (try clear hb)
            (try clear ho0)
            refine hK.out _ _ ⟨(blk_cell BK1056.out 0).trans rfl, (blk_cell BK1056.out 1).trans rfl, (blk_cell BK1056.out 2).trans rfl, HS3_⟩ (fun hHeld => ?_)
            clear hK K
            refine Z.nm ?_
            refine pure_ (i := 6) (N := some 12) (v := ?_) (a' := ?_) #[true, true, true, true, true, true, true] rfl rfl (by kernel_rfl) (fun _ _ _ h => h) (Or.inl ⟨by rfl, ?_⟩) ?_ ?_
            rotate_left
            ·intro w'
             go_simp
             with_reducible rfl
            rotate_left
            ·simp only [Act.put, List.setIfInBounds_toArray, List.set_cons_zero, List.set_cons_succ, i64_w, i32_w]
             rfl
            refine done_ (by kernel_rfl) ?_
            have hcz52 := Z.c3 BK1056.out
            obtain ⟨Ao53, co53, eo53⟩ := Kd.R_slice HO1069.out
            subst eo53
            try go_wp2_with (first | ((with_reducible refine gate_callee (f := 30) rfl ?_); refine goesL_ (some 87) rfl rfl Try.func30 (by kernel_rfl) rfl #[.agg #[.int .i64 t1042, .slice Ao14 t1043.length co14, .slice Ao15 t1046.length co15], .slice Ao16 t1049.length co16, .slice Ao53 t1067.length co53, .int .i64 t1055] rfl Z.ar ?_; (with_reducible refine (impl_ChangesTo.calls k3 t1042 _ _ t1043 _ _ t1046 _ _ t1049 _ _ t1067 t1055 t1070 _ ?q1 ?q2 ?q3 ?q4 ?q5 ?q6 ?q7 ?q8 A46.out).mono ?_); (case q1 => exact (Kd.R_reads' HO_1057001.out).2.2); (case q2 => exact (Kd.R_reads' HO_1057001.out).2.1); (case q3 => exact (Kd.R_reads' HO_1057002.out).2.2); (case q4 => exact (Kd.R_reads' HO_1057002.out).2.1); (case q5 => exact (Kd.R_reads' HO_6.out).2.2); (case q6 => exact (Kd.R_reads' HO_6.out).2.1); (case q7 => exact (Kd.R_reads' HO1069.out).2.2); (case q8 => exact (Kd.R_reads' HO1069.out).2.1); rintro e w54 ⟨rfl, hb⟩; refine ⟨_, rfl, ?_⟩; replace HO_6 := Z.k (Kd.R_below HO_6.out hb); replace HO_7 := Z.k (Kd.R_below HO_7.out hb); replace HO_10 := Z.k (Kd.R_below HO_10.out hb); replace HO_1057001 := Z.k (Kd.R_below HO_1057001.out hb); replace HO_1057002 := Z.k (Kd.R_below HO_1057002.out hb); replace HO1069 := Z.k (Kd.R_below HO1069.out hb); replace BK1056 := Z.bb BK1056 hb; replace HB := Z.st (Z.bs HB.out GE1056.out) hb; (try clear hb); have hcz55 := Z.c3 BK1056.out) | ((with_reducible refine gate_callee (f := 30) rfl ?_); refine goesL_ (some 92) rfl rfl Try.func30 (by kernel_rfl) rfl #[.agg #[.int .i64 t1042, .slice Ao14 t1043.length co14, .slice Ao15 t1046.length co15], .slice Ao53 t1067.length co53, .slice Ao17 t1052.length co17, .int .i64 t1055] rfl Z.ar ?_; (with_reducible refine (impl_ChangesTo.calls k3 t1042 _ _ t1043 _ _ t1046 _ _ t1067 _ _ t1052 t1055 t1071 _ ?q1 ?q2 ?q3 ?q4 ?q5 ?q6 ?q7 ?q8 A47.out).mono ?_); (case q1 => exact (Kd.R_reads' HO_1057001.out).2.2); (case q2 => exact (Kd.R_reads' HO_1057001.out).2.1); (case q3 => exact (Kd.R_reads' HO_1057002.out).2.2); (case q4 => exact (Kd.R_reads' HO_1057002.out).2.1); (case q5 => exact (Kd.R_reads' HO1069.out).2.2); (case q6 => exact (Kd.R_reads' HO1069.out).2.1); (case q7 => exact (Kd.R_reads' HO_7.out).2.2); (case q8 => exact (Kd.R_reads' HO_7.out).2.1); rintro e w56 ⟨rfl, hb⟩; refine ⟨_, rfl, ?_⟩; replace HO_6 := Z.k (Kd.R_below HO_6.out hb); replace HO_7 := Z.k (Kd.R_below HO_7.out hb); replace HO_10 := Z.k (Kd.R_below HO_10.out hb); replace HO_1057001 := Z.k (Kd.R_below HO_1057001.out hb); replace HO_1057002 := Z.k (Kd.R_below HO_1057002.out hb); replace HO1069 := Z.k (Kd.R_below HO1069.out hb); replace BK1056 := Z.bb BK1056 hb; replace HB := Z.st (Z.bs HB.out GE1056.out) hb; (try clear hb)))
            go_ret
            exact ⟨by rfl, Z.bs HB.out GE1056.out⟩
           ·rw [if_neg c48] at H
            have c48b0 := decide_eq_false c48
            clear c48
            by_cases c57 : t1071 ≥ 0
            ·rw [if_pos c57] at H
             have c57b0 : decide (0 ≤ t1071) = true := decide_eq_true c57
             clear c57
             by_cases c58 : t1057 < 0
             ·rw [if_pos c58] at H
              have c58b0 := decide_eq_true c58
              clear c58
              obtain rfl := Option.some.inj H
              obtain ⟨Ao59, co59, eo59⟩ := Kd.R_slice HO_10.out
              subst eo59
              try go_wp2
              replace HO_6 := Z.k (Kd.R_drew HO_6.out)
              replace HO_7 := Z.k (Kd.R_drew HO_7.out)
              replace HO_10 := Z.k (Kd.R_drew HO_10.out)
              replace HO_1057001 := Z.k (Kd.R_drew HO_1057001.out)
              replace HO_1057002 := Z.k (Kd.R_drew HO_1057002.out)
              replace BK1056 := Z.k (blk_drew BK1056.out)
              replace HB := Z.k (below_drew1 HB.out)
              have p1066 : 0 ≤ (x11_3 : Int) := Z.od
              have q1066 : x11_3 < (t1063.length : Int) := Z.od
              obtain ⟨ad1066, e1066, hx1066_0⟩ := Kd.at_int (Kd.R_reads' HO_10.out).2.2 x11_3 p1066 q1066
              cases e1066
              replace p1066 := eq_true p1066
              replace q1066 := eq_true q1066
              refine start_ (n := 7) (S := fun w' => w'.cell? ⟨gb1056, 0, none⟩ = some (.int .i64 t1042) ∧ w'.cell? ⟨gb1056, 1, none⟩ = some (.slice Ao14 t1043.length co14) ∧ w'.cell? ⟨gb1056, 2, none⟩ = some (.slice Ao15 t1046.length co15) ∧ w'.cell? (ad1066.add (x11_3).toNat) = some (.int .i64 (rd t1063 x11_3))) (ds := []) #[false, false, false, false, false, false, false] (by kernel_rfl) rfl rfl ⟨(blk_cell BK1056.out 0).trans rfl, (blk_cell BK1056.out 1).trans rfl, (blk_cell BK1056.out 2).trans rfl, hx1066_0⟩ (fun hHeld => ?_)
              generalize wr.drew = w60 at HO_6 HO_7 HO_10 HO_1057001 HO_1057002 BK1056 HB hx1066_0 hHeld ⊢
              refine pure_ (i := 1) (N := some 78) (v := ?_) (a' := ?_) #[false, true, false, false, false, false, false] rfl rfl (by kernel_rfl) (fun _ _ _ h => h) (Or.inl ⟨by rfl, ?_⟩) ?_ ?_
              rotate_left
              ·intro w'
               go_simp
               with_reducible rfl
              rotate_left
              ·simp only [Act.put, List.setIfInBounds_toArray, List.set_cons_zero, List.set_cons_succ, i64_w, i32_w]
               rfl
              refine pure_ (i := 2) (N := some 79) (v := ?_) (a' := ?_) #[false, true, true, false, false, false, false] rfl rfl (by kernel_rfl) (fun _ _ _ h => h) (Or.inl ⟨by rfl, ?_⟩) ?_ ?_
              rotate_left
              ·intro w'
               go_simp
               with_reducible rfl
              rotate_left
              ·simp only [Act.put, List.setIfInBounds_toArray, List.set_cons_zero, List.set_cons_succ, i64_w, i32_w]
               rfl
              refine pure_ (i := 3) (N := some 80) (v := ?_) (a' := ?_) #[false, true, true, true, false, false, false] rfl rfl (by kernel_rfl) (fun _ _ _ h => h) (Or.inl ⟨by rfl, ?_⟩) ?_ ?_
              rotate_left
              ·intro w'
               go_simp
               with_reducible rfl
              rotate_left
              ·simp only [Act.put, List.setIfInBounds_toArray, List.set_cons_zero, List.set_cons_succ, i64_w, i32_w]
               rfl
              refine take_ (i := 0) (N := some 77) (v := ?_) (a' := ?_) #[true, true, true, true, false, false, false] rfl rfl (by kernel_rfl) (fun _ _ _ h => h) (Or.inl ⟨by rfl, ?_⟩) hHeld ?_ ?_
              rotate_left
              ·rintro w' ⟨s0, s1, s2, s3⟩
               go_simp
               with_reducible rfl
              rotate_left
              ·simp only [Act.put, List.setIfInBounds_toArray, List.set_cons_zero, List.set_cons_succ, i64_w, i32_w]
               rfl
              refine take_ (i := 4) (N := some 81) (v := ?_) (a' := ?_) #[true, true, true, true, true, false, false] rfl rfl (by kernel_rfl) (fun _ _ _ h => h) (Or.inl ⟨by rfl, ?_⟩) hHeld ?_ ?_
              rotate_left
              ·rintro w' ⟨s0, s1, s2, s3⟩
               go_simp
               with_reducible rfl
              rotate_left
              ·simp only [Act.put, List.setIfInBounds_toArray, List.set_cons_zero, List.set_cons_succ, i64_w, i32_w]
               rfl
              refine one_ (i := 5) (N := some 82) (Z.mb 7 63) rfl rfl (by kernel_rfl) (by decide) (fun K hK => ?_)
              refine goes_ Try.func38 (by kernel_rfl) rfl #[.agg #[.int .i64 t1042, .slice Ao14 t1043.length co14, .slice Ao15 t1046.length co15], .int .i64 (rd t1063 x11_3)] (by rfl) rfl rfl Z.ar ?_
              with_reducible refine (laws_stateOf.calls k3 t1042 _ _ t1043 _ _ t1046 (rd t1063 x11_3) t1067 _ ?q1 ?q2 ?q3 ?q4 A45.out).mono ?_
              (case q1 => exact (Kd.R_reads' HO_1057001.out).2.2)
              (case q2 => exact (Kd.R_reads' HO_1057001.out).2.1)
              (case q3 => exact (Kd.R_reads' HO_1057002.out).2.2)
              (case q4 => exact (Kd.R_reads' HO_1057002.out).2.1)
              rintro e w61 ⟨v1068, rfl, ho0, hb⟩
              have HS3_ := (hb.cell (World.block_lt_of_cell? _ _ (hHeld.2.2.2))).trans (hHeld.2.2.2)
              refine ⟨_, rfl, ?_⟩
              replace HO_1057002 := Z.k (Kd.R_below HO_1057002.out hb)
              have HO1069 := Z.k (Kd.R_lower (Kd.R_new' (Kd.R_new' (Kd.R_new' (Kd.R_new' ho0 (Kd.R_lt HO_6.out)) (Kd.R_lt HO_7.out)) (Kd.R_lt HO_10.out)) (Kd.R_lt HO_1057001.out)) (below_size (Z.bs HB.out GE1056.out)))
              replace HO_6 := Z.k (Kd.R_elder' HO_6.out (Kd.R_base ho0) hb)
              replace HO_7 := Z.k (Kd.R_elder' HO_7.out (Kd.R_base ho0) hb)
              replace HO_10 := Z.k (Kd.R_elder' HO_10.out (Kd.R_base ho0) hb)
              replace HO_1057001 := Z.k (Kd.R_elder' HO_1057001.out (Kd.R_base ho0) hb)
              replace BK1056 := Z.bb BK1056 hb
              replace HB := Z.st (Z.bs HB.out GE1056.out) hb
              (try clear hb)
              (try clear ho0)
              refine hK.out _ _ ⟨(blk_cell BK1056.out 0).trans rfl, (blk_cell BK1056.out 1).trans rfl, (blk_cell BK1056.out 2).trans rfl, HS3_⟩ (fun hHeld => ?_)
              clear hK K
              refine Z.nm ?_
              refine pure_ (i := 6) (N := some 12) (v := ?_) (a' := ?_) #[true, true, true, true, true, true, true] rfl rfl (by kernel_rfl) (fun _ _ _ h => h) (Or.inl ⟨by rfl, ?_⟩) ?_ ?_
              rotate_left
              ·intro w'
               go_simp
               with_reducible rfl
              rotate_left
              ·simp only [Act.put, List.setIfInBounds_toArray, List.set_cons_zero, List.set_cons_succ, i64_w, i32_w]
               rfl
              refine done_ (by kernel_rfl) ?_
              have hcz62 := Z.c3 BK1056.out
              obtain ⟨Ao63, co63, eo63⟩ := Kd.R_slice HO1069.out
              subst eo63
              try go_wp2_with (first | ((with_reducible refine gate_callee (f := 30) rfl ?_); refine goesL_ (some 87) rfl rfl Try.func30 (by kernel_rfl) rfl #[.agg #[.int .i64 t1042, .slice Ao14 t1043.length co14, .slice Ao15 t1046.length co15], .slice Ao16 t1049.length co16, .slice Ao63 t1067.length co63, .int .i64 t1055] rfl Z.ar ?_; (with_reducible refine (impl_ChangesTo.calls k3 t1042 _ _ t1043 _ _ t1046 _ _ t1049 _ _ t1067 t1055 t1070 _ ?q1 ?q2 ?q3 ?q4 ?q5 ?q6 ?q7 ?q8 A46.out).mono ?_); (case q1 => exact (Kd.R_reads' HO_1057001.out).2.2); (case q2 => exact (Kd.R_reads' HO_1057001.out).2.1); (case q3 => exact (Kd.R_reads' HO_1057002.out).2.2); (case q4 => exact (Kd.R_reads' HO_1057002.out).2.1); (case q5 => exact (Kd.R_reads' HO_6.out).2.2); (case q6 => exact (Kd.R_reads' HO_6.out).2.1); (case q7 => exact (Kd.R_reads' HO1069.out).2.2); (case q8 => exact (Kd.R_reads' HO1069.out).2.1); rintro e w64 ⟨rfl, hb⟩; refine ⟨_, rfl, ?_⟩; replace HO_6 := Z.k (Kd.R_below HO_6.out hb); replace HO_7 := Z.k (Kd.R_below HO_7.out hb); replace HO_10 := Z.k (Kd.R_below HO_10.out hb); replace HO_1057001 := Z.k (Kd.R_below HO_1057001.out hb); replace HO_1057002 := Z.k (Kd.R_below HO_1057002.out hb); replace HO1069 := Z.k (Kd.R_below HO1069.out hb); replace BK1056 := Z.bb BK1056 hb; replace HB := Z.st (Z.bs HB.out GE1056.out) hb; (try clear hb); have hcz65 := Z.c3 BK1056.out) | ((with_reducible refine gate_callee (f := 30) rfl ?_); refine goesL_ (some 92) rfl rfl Try.func30 (by kernel_rfl) rfl #[.agg #[.int .i64 t1042, .slice Ao14 t1043.length co14, .slice Ao15 t1046.length co15], .slice Ao63 t1067.length co63, .slice Ao17 t1052.length co17, .int .i64 t1055] rfl Z.ar ?_; (with_reducible refine (impl_ChangesTo.calls k3 t1042 _ _ t1043 _ _ t1046 _ _ t1067 _ _ t1052 t1055 t1071 _ ?q1 ?q2 ?q3 ?q4 ?q5 ?q6 ?q7 ?q8 A47.out).mono ?_); (case q1 => exact (Kd.R_reads' HO_1057001.out).2.2); (case q2 => exact (Kd.R_reads' HO_1057001.out).2.1); (case q3 => exact (Kd.R_reads' HO_1057002.out).2.2); (case q4 => exact (Kd.R_reads' HO_1057002.out).2.1); (case q5 => exact (Kd.R_reads' HO1069.out).2.2); (case q6 => exact (Kd.R_reads' HO1069.out).2.1); (case q7 => exact (Kd.R_reads' HO_7.out).2.2); (case q8 => exact (Kd.R_reads' HO_7.out).2.1); rintro e w66 ⟨rfl, hb⟩; refine ⟨_, rfl, ?_⟩; replace HO_6 := Z.k (Kd.R_below HO_6.out hb); replace HO_7 := Z.k (Kd.R_below HO_7.out hb); replace HO_10 := Z.k (Kd.R_below HO_10.out hb); replace HO_1057001 := Z.k (Kd.R_below HO_1057001.out hb); replace HO_1057002 := Z.k (Kd.R_below HO_1057002.out hb); replace HO1069 := Z.k (Kd.R_below HO1069.out hb); replace BK1056 := Z.bb BK1056 hb; replace HB := Z.st (Z.bs HB.out GE1056.out) hb; (try clear hb)))
              go_ret
              exact ⟨by rfl, Z.bs HB.out GE1056.out⟩
             ·rw [if_neg c58] at H
              have c58b0 := decide_eq_false c58
              clear c58
              by_cases c67 : t1057 > (wrap64 (t1070 + t1071))
              ·rw [if_pos c67] at H
               have c67b0 : decide ((wrap64 (t1070 + t1071)) < t1057) = true := decide_eq_true c67
               clear c67
               obtain rfl := Option.some.inj H
               obtain ⟨Ao68, co68, eo68⟩ := Kd.R_slice HO_10.out
               subst eo68
               try go_wp2
               replace HO_6 := Z.k (Kd.R_drew HO_6.out)
               replace HO_7 := Z.k (Kd.R_drew HO_7.out)
               replace HO_10 := Z.k (Kd.R_drew HO_10.out)
               replace HO_1057001 := Z.k (Kd.R_drew HO_1057001.out)
               replace HO_1057002 := Z.k (Kd.R_drew HO_1057002.out)
               replace BK1056 := Z.k (blk_drew BK1056.out)
               replace HB := Z.k (below_drew1 HB.out)
               have p1066 : 0 ≤ (x11_3 : Int) := Z.od
               have q1066 : x11_3 < (t1063.length : Int) := Z.od
               obtain ⟨ad1066, e1066, hx1066_0⟩ := Kd.at_int (Kd.R_reads' HO_10.out).2.2 x11_3 p1066 q1066
               cases e1066
               replace p1066 := eq_true p1066
               replace q1066 := eq_true q1066
               refine start_ (n := 7) (S := fun w' => w'.cell? ⟨gb1056, 0, none⟩ = some (.int .i64 t1042) ∧ w'.cell? ⟨gb1056, 1, none⟩ = some (.slice Ao14 t1043.length co14) ∧ w'.cell? ⟨gb1056, 2, none⟩ = some (.slice Ao15 t1046.length co15) ∧ w'.cell? (ad1066.add (x11_3).toNat) = some (.int .i64 (rd t1063 x11_3))) (ds := []) #[false, false, false, false, false, false, false] (by kernel_rfl) rfl rfl ⟨(blk_cell BK1056.out 0).trans rfl, (blk_cell BK1056.out 1).trans rfl, (blk_cell BK1056.out 2).trans rfl, hx1066_0⟩ (fun hHeld => ?_)
               generalize wr.drew = w69 at HO_6 HO_7 HO_10 HO_1057001 HO_1057002 BK1056 HB hx1066_0 hHeld ⊢
               refine pure_ (i := 1) (N := some 78) (v := ?_) (a' := ?_) #[false, true, false, false, false, false, false] rfl rfl (by kernel_rfl) (fun _ _ _ h => h) (Or.inl ⟨by rfl, ?_⟩) ?_ ?_
               rotate_left
               ·intro w'
                go_simp
                with_reducible rfl
               rotate_left
               ·simp only [Act.put, List.setIfInBounds_toArray, List.set_cons_zero, List.set_cons_succ, i64_w, i32_w]
                rfl
               refine pure_ (i := 2) (N := some 79) (v := ?_) (a' := ?_) #[false, true, true, false, false, false, false] rfl rfl (by kernel_rfl) (fun _ _ _ h => h) (Or.inl ⟨by rfl, ?_⟩) ?_ ?_
               rotate_left
               ·intro w'
                go_simp
                with_reducible rfl
               rotate_left
               ·simp only [Act.put, List.setIfInBounds_toArray, List.set_cons_zero, List.set_cons_succ, i64_w, i32_w]
                rfl
               refine pure_ (i := 3) (N := some 80) (v := ?_) (a' := ?_) #[false, true, true, true, false, false, false] rfl rfl (by kernel_rfl) (fun _ _ _ h => h) (Or.inl ⟨by rfl, ?_⟩) ?_ ?_
               rotate_left
               ·intro w'
                go_simp
                with_reducible rfl
               rotate_left
               ·simp only [Act.put, List.setIfInBounds_toArray, List.set_cons_zero, List.set_cons_succ, i64_w, i32_w]
                rfl
               refine take_ (i := 0) (N := some 77) (v := ?_) (a' := ?_) #[true, true, true, true, false, false, false] rfl rfl (by kernel_rfl) (fun _ _ _ h => h) (Or.inl ⟨by rfl, ?_⟩) hHeld ?_ ?_
               rotate_left
               ·rintro w' ⟨s0, s1, s2, s3⟩
                go_simp
                with_reducible rfl
               rotate_left
               ·simp only [Act.put, List.setIfInBounds_toArray, List.set_cons_zero, List.set_cons_succ, i64_w, i32_w]
                rfl
               refine take_ (i := 4) (N := some 81) (v := ?_) (a' := ?_) #[true, true, true, true, true, false, false] rfl rfl (by kernel_rfl) (fun _ _ _ h => h) (Or.inl ⟨by rfl, ?_⟩) hHeld ?_ ?_
               rotate_left
               ·rintro w' ⟨s0, s1, s2, s3⟩
                go_simp
                with_reducible rfl
               rotate_left
               ·simp only [Act.put, List.setIfInBounds_toArray, List.set_cons_zero, List.set_cons_succ, i64_w, i32_w]
                rfl
               refine one_ (i := 5) (N := some 82) (Z.mb 7 63) rfl rfl (by kernel_rfl) (by decide) (fun K hK => ?_)
               refine goes_ Try.func38 (by kernel_rfl) rfl #[.agg #[.int .i64 t1042, .slice Ao14 t1043.length co14, .slice Ao15 t1046.length co15], .int .i64 (rd t1063 x11_3)] (by rfl) rfl rfl Z.ar ?_
               with_reducible refine (laws_stateOf.calls k3 t1042 _ _ t1043 _ _ t1046 (rd t1063 x11_3) t1067 _ ?q1 ?q2 ?q3 ?q4 A45.out).mono ?_
               (case q1 => exact (Kd.R_reads' HO_1057001.out).2.2)
               (case q2 => exact (Kd.R_reads' HO_1057001.out).2.1)
               (case q3 => exact (Kd.R_reads' HO_1057002.out).2.2)
               (case q4 => exact (Kd.R_reads' HO_1057002.out).2.1)
               rintro e w70 ⟨v1068, rfl, ho0, hb⟩
               have HS3_ := (hb.cell (World.block_lt_of_cell? _ _ (hHeld.2.2.2))).trans (hHeld.2.2.2)
               refine ⟨_, rfl, ?_⟩
               replace HO_1057002 := Z.k (Kd.R_below HO_1057002.out hb)
               have HO1069 := Z.k (Kd.R_lower (Kd.R_new' (Kd.R_new' (Kd.R_new' (Kd.R_new' ho0 (Kd.R_lt HO_6.out)) (Kd.R_lt HO_7.out)) (Kd.R_lt HO_10.out)) (Kd.R_lt HO_1057001.out)) (below_size (Z.bs HB.out GE1056.out)))
               replace HO_6 := Z.k (Kd.R_elder' HO_6.out (Kd.R_base ho0) hb)
               replace HO_7 := Z.k (Kd.R_elder' HO_7.out (Kd.R_base ho0) hb)
               replace HO_10 := Z.k (Kd.R_elder' HO_10.out (Kd.R_base ho0) hb)
               replace HO_1057001 := Z.k (Kd.R_elder' HO_1057001.out (Kd.R_base ho0) hb)
               replace BK1056 := Z.bb BK1056 hb
               replace HB := Z.st (Z.bs HB.out GE1056.out) hb
               (try clear hb)
               (try clear ho0)
               refine hK.out _ _ ⟨(blk_cell BK1056.out 0).trans rfl, (blk_cell BK1056.out 1).trans rfl, (blk_cell BK1056.out 2).trans rfl, HS3_⟩ (fun hHeld => ?_)
               clear hK K
               refine Z.nm ?_
               refine pure_ (i := 6) (N := some 12) (v := ?_) (a' := ?_) #[true, true, true, true, true, true, true] rfl rfl (by kernel_rfl) (fun _ _ _ h => h) (Or.inl ⟨by rfl, ?_⟩) ?_ ?_
               rotate_left
               ·intro w'
                go_simp
                with_reducible rfl
               rotate_left
               ·simp only [Act.put, List.setIfInBounds_toArray, List.set_cons_zero, List.set_cons_succ, i64_w, i32_w]
                rfl
               refine done_ (by kernel_rfl) ?_
               have hcz71 := Z.c3 BK1056.out
               obtain ⟨Ao72, co72, eo72⟩ := Kd.R_slice HO1069.out
               subst eo72
               try go_wp2_with (first | ((with_reducible refine gate_callee (f := 30) rfl ?_); refine goesL_ (some 87) rfl rfl Try.func30 (by kernel_rfl) rfl #[.agg #[.int .i64 t1042, .slice Ao14 t1043.length co14, .slice Ao15 t1046.length co15], .slice Ao16 t1049.length co16, .slice Ao72 t1067.length co72, .int .i64 t1055] rfl Z.ar ?_; (with_reducible refine (impl_ChangesTo.calls k3 t1042 _ _ t1043 _ _ t1046 _ _ t1049 _ _ t1067 t1055 t1070 _ ?q1 ?q2 ?q3 ?q4 ?q5 ?q6 ?q7 ?q8 A46.out).mono ?_); (case q1 => exact (Kd.R_reads' HO_1057001.out).2.2); (case q2 => exact (Kd.R_reads' HO_1057001.out).2.1); (case q3 => exact (Kd.R_reads' HO_1057002.out).2.2); (case q4 => exact (Kd.R_reads' HO_1057002.out).2.1); (case q5 => exact (Kd.R_reads' HO_6.out).2.2); (case q6 => exact (Kd.R_reads' HO_6.out).2.1); (case q7 => exact (Kd.R_reads' HO1069.out).2.2); (case q8 => exact (Kd.R_reads' HO1069.out).2.1); rintro e w73 ⟨rfl, hb⟩; refine ⟨_, rfl, ?_⟩; replace HO_6 := Z.k (Kd.R_below HO_6.out hb); replace HO_7 := Z.k (Kd.R_below HO_7.out hb); replace HO_10 := Z.k (Kd.R_below HO_10.out hb); replace HO_1057001 := Z.k (Kd.R_below HO_1057001.out hb); replace HO_1057002 := Z.k (Kd.R_below HO_1057002.out hb); replace HO1069 := Z.k (Kd.R_below HO1069.out hb); replace BK1056 := Z.bb BK1056 hb; replace HB := Z.st (Z.bs HB.out GE1056.out) hb; (try clear hb); have hcz74 := Z.c3 BK1056.out) | ((with_reducible refine gate_callee (f := 30) rfl ?_); refine goesL_ (some 92) rfl rfl Try.func30 (by kernel_rfl) rfl #[.agg #[.int .i64 t1042, .slice Ao14 t1043.length co14, .slice Ao15 t1046.length co15], .slice Ao72 t1067.length co72, .slice Ao17 t1052.length co17, .int .i64 t1055] rfl Z.ar ?_; (with_reducible refine (impl_ChangesTo.calls k3 t1042 _ _ t1043 _ _ t1046 _ _ t1067 _ _ t1052 t1055 t1071 _ ?q1 ?q2 ?q3 ?q4 ?q5 ?q6 ?q7 ?q8 A47.out).mono ?_); (case q1 => exact (Kd.R_reads' HO_1057001.out).2.2); (case q2 => exact (Kd.R_reads' HO_1057001.out).2.1); (case q3 => exact (Kd.R_reads' HO_1057002.out).2.2); (case q4 => exact (Kd.R_reads' HO_1057002.out).2.1); (case q5 => exact (Kd.R_reads' HO1069.out).2.2); (case q6 => exact (Kd.R_reads' HO1069.out).2.1); (case q7 => exact (Kd.R_reads' HO_7.out).2.2); (case q8 => exact (Kd.R_reads' HO_7.out).2.1); rintro e w75 ⟨rfl, hb⟩; refine ⟨_, rfl, ?_⟩; replace HO_6 := Z.k (Kd.R_below HO_6.out hb); replace HO_7 := Z.k (Kd.R_below HO_7.out hb); replace HO_10 := Z.k (Kd.R_below HO_10.out hb); replace HO_1057001 := Z.k (Kd.R_below HO_1057001.out hb); replace HO_1057002 := Z.k (Kd.R_below HO_1057002.out hb); replace HO1069 := Z.k (Kd.R_below HO1069.out hb); replace BK1056 := Z.bb BK1056 hb; replace HB := Z.st (Z.bs HB.out GE1056.out) hb; (try clear hb)))
               go_ret
               exact ⟨by rfl, Z.bs HB.out GE1056.out⟩
              ·rw [if_neg c67] at H
               have c67b0 : decide ((wrap64 (t1070 + t1071)) < t1057) = false := decide_eq_false c67
               clear c67
               have H' := Z.k H
               clear H
               obtain ⟨Ao76, co76, eo76⟩ := Kd.R_slice HO_10.out
               subst eo76
               try go_wp2
               replace HO_6 := Z.k (Kd.R_drew HO_6.out)
               replace HO_7 := Z.k (Kd.R_drew HO_7.out)
               replace HO_10 := Z.k (Kd.R_drew HO_10.out)
               replace HO_1057001 := Z.k (Kd.R_drew HO_1057001.out)
               replace HO_1057002 := Z.k (Kd.R_drew HO_1057002.out)
               replace BK1056 := Z.k (blk_drew BK1056.out)
               replace HB := Z.k (below_drew1 HB.out)
               have p1066 : 0 ≤ (x11_3 : Int) := Z.od
               have q1066 : x11_3 < (t1063.length : Int) := Z.od
               obtain ⟨ad1066, e1066, hx1066_0⟩ := Kd.at_int (Kd.R_reads' HO_10.out).2.2 x11_3 p1066 q1066
               cases e1066
               replace p1066 := eq_true p1066
               replace q1066 := eq_true q1066
               refine start_ (n := 7) (S := fun w' => w'.cell? ⟨gb1056, 0, none⟩ = some (.int .i64 t1042) ∧ w'.cell? ⟨gb1056, 1, none⟩ = some (.slice Ao14 t1043.length co14) ∧ w'.cell? ⟨gb1056, 2, none⟩ = some (.slice Ao15 t1046.length co15) ∧ w'.cell? (ad1066.add (x11_3).toNat) = some (.int .i64 (rd t1063 x11_3))) (ds := []) #[false, false, false, false, false, false, false] (by kernel_rfl) rfl rfl ⟨(blk_cell BK1056.out 0).trans rfl, (blk_cell BK1056.out 1).trans rfl, (blk_cell BK1056.out 2).trans rfl, hx1066_0⟩ (fun hHeld => ?_)
               generalize wr.drew = w77 at HO_6 HO_7 HO_10 HO_1057001 HO_1057002 BK1056 HB hx1066_0 hHeld ⊢
               refine pure_ (i := 1) (N := some 78) (v := ?_) (a' := ?_) #[false, true, false, false, false, false, false] rfl rfl (by kernel_rfl) (fun _ _ _ h => h) (Or.inl ⟨by rfl, ?_⟩) ?_ ?_
               rotate_left
               ·intro w'
                go_simp
                with_reducible rfl
               rotate_left
               ·simp only [Act.put, List.setIfInBounds_toArray, List.set_cons_zero, List.set_cons_succ, i64_w, i32_w]
                rfl
               refine pure_ (i := 2) (N := some 79) (v := ?_) (a' := ?_) #[false, true, true, false, false, false, false] rfl rfl (by kernel_rfl) (fun _ _ _ h => h) (Or.inl ⟨by rfl, ?_⟩) ?_ ?_
               rotate_left
               ·intro w'
                go_simp
                with_reducible rfl
               rotate_left
               ·simp only [Act.put, List.setIfInBounds_toArray, List.set_cons_zero, List.set_cons_succ, i64_w, i32_w]
                rfl
               refine pure_ (i := 3) (N := some 80) (v := ?_) (a' := ?_) #[false, true, true, true, false, false, false] rfl rfl (by kernel_rfl) (fun _ _ _ h => h) (Or.inl ⟨by rfl, ?_⟩) ?_ ?_
               rotate_left
               ·intro w'
                go_simp
                with_reducible rfl
               rotate_left
               ·simp only [Act.put, List.setIfInBounds_toArray, List.set_cons_zero, List.set_cons_succ, i64_w, i32_w]
                rfl
               refine take_ (i := 0) (N := some 77) (v := ?_) (a' := ?_) #[true, true, true, true, false, false, false] rfl rfl (by kernel_rfl) (fun _ _ _ h => h) (Or.inl ⟨by rfl, ?_⟩) hHeld ?_ ?_
               rotate_left
               ·rintro w' ⟨s0, s1, s2, s3⟩
                go_simp
                with_reducible rfl
               rotate_left
               ·simp only [Act.put, List.setIfInBounds_toArray, List.set_cons_zero, List.set_cons_succ, i64_w, i32_w]
                rfl
               refine take_ (i := 4) (N := some 81) (v := ?_) (a' := ?_) #[true, true, true, true, true, false, false] rfl rfl (by kernel_rfl) (fun _ _ _ h => h) (Or.inl ⟨by rfl, ?_⟩) hHeld ?_ ?_
               rotate_left
               ·rintro w' ⟨s0, s1, s2, s3⟩
                go_simp
                with_reducible rfl
               rotate_left
               ·simp only [Act.put, List.setIfInBounds_toArray, List.set_cons_zero, List.set_cons_succ, i64_w, i32_w]
                rfl
               refine one_ (i := 5) (N := some 82) (Z.mb 7 63) rfl rfl (by kernel_rfl) (by decide) (fun K hK => ?_)
               refine goes_ Try.func38 (by kernel_rfl) rfl #[.agg #[.int .i64 t1042, .slice Ao14 t1043.length co14, .slice Ao15 t1046.length co15], .int .i64 (rd t1063 x11_3)] (by rfl) rfl rfl Z.ar ?_
               with_reducible refine (laws_stateOf.calls k3 t1042 _ _ t1043 _ _ t1046 (rd t1063 x11_3) t1067 _ ?q1 ?q2 ?q3 ?q4 A45.out).mono ?_
               (case q1 => exact (Kd.R_reads' HO_1057001.out).2.2)
               (case q2 => exact (Kd.R_reads' HO_1057001.out).2.1)
               (case q3 => exact (Kd.R_reads' HO_1057002.out).2.2)
               (case q4 => exact (Kd.R_reads' HO_1057002.out).2.1)
               rintro e w78 ⟨v1068, rfl, ho0, hb⟩
               have HS3_ := (hb.cell (World.block_lt_of_cell? _ _ (hHeld.2.2.2))).trans (hHeld.2.2.2)
               refine ⟨_, rfl, ?_⟩
               replace HO_1057002 := Z.k (Kd.R_below HO_1057002.out hb)
               have HO1069 := Z.k (Kd.R_lower (Kd.R_new' (Kd.R_new' (Kd.R_new' (Kd.R_new' ho0 (Kd.R_lt HO_6.out)) (Kd.R_lt HO_7.out)) (Kd.R_lt HO_10.out)) (Kd.R_lt HO_1057001.out)) (below_size (Z.bs HB.out GE1056.out)))
               replace HO_6 := Z.k (Kd.R_elder' HO_6.out (Kd.R_base ho0) hb)
               replace HO_7 := Z.k (Kd.R_elder' HO_7.out (Kd.R_base ho0) hb)
               replace HO_10 := Z.k (Kd.R_elder' HO_10.out (Kd.R_base ho0) hb)
               replace HO_1057001 := Z.k (Kd.R_elder' HO_1057001.out (Kd.R_base ho0) hb)
               replace BK1056 := Z.bb BK1056 hb
               replace HB := Z.st (Z.bs HB.out GE1056.out) hb
               (try clear hb)
               (try clear ho0)
               refine hK.out _ _ ⟨(blk_cell BK1056.out 0).trans rfl, (blk_cell BK1056.out 1).trans rfl, (blk_cell BK1056.out 2).trans rfl, HS3_⟩ (fun hHeld => ?_)
               clear hK K
               refine Z.nm ?_
               refine pure_ (i := 6) (N := some 12) (v := ?_) (a' := ?_) #[true, true, true, true, true, true, true] rfl rfl (by kernel_rfl) (fun _ _ _ h => h) (Or.inl ⟨by rfl, ?_⟩) ?_ ?_
               rotate_left
               ·intro w'
                go_simp
                with_reducible rfl
               rotate_left
               ·simp only [Act.put, List.setIfInBounds_toArray, List.set_cons_zero, List.set_cons_succ, i64_w, i32_w]
                rfl
               refine done_ (by kernel_rfl) ?_
               have hcz79 := Z.c3 BK1056.out
               obtain ⟨Ao80, co80, eo80⟩ := Kd.R_slice HO1069.out
               subst eo80
               try go_wp2_with (first | ((with_reducible refine gate_callee (f := 30) rfl ?_); refine goesL_ (some 87) rfl rfl Try.func30 (by kernel_rfl) rfl #[.agg #[.int .i64 t1042, .slice Ao14 t1043.length co14, .slice Ao15 t1046.length co15], .slice Ao16 t1049.length co16, .slice Ao80 t1067.length co80, .int .i64 t1055] rfl Z.ar ?_; (with_reducible refine (impl_ChangesTo.calls k3 t1042 _ _ t1043 _ _ t1046 _ _ t1049 _ _ t1067 t1055 t1070 _ ?q1 ?q2 ?q3 ?q4 ?q5 ?q6 ?q7 ?q8 A46.out).mono ?_); (case q1 => exact (Kd.R_reads' HO_1057001.out).2.2); (case q2 => exact (Kd.R_reads' HO_1057001.out).2.1); (case q3 => exact (Kd.R_reads' HO_1057002.out).2.2); (case q4 => exact (Kd.R_reads' HO_1057002.out).2.1); (case q5 => exact (Kd.R_reads' HO_6.out).2.2); (case q6 => exact (Kd.R_reads' HO_6.out).2.1); (case q7 => exact (Kd.R_reads' HO1069.out).2.2); (case q8 => exact (Kd.R_reads' HO1069.out).2.1); rintro e w81 ⟨rfl, hb⟩; refine ⟨_, rfl, ?_⟩; replace HO_6 := Z.k (Kd.R_below HO_6.out hb); replace HO_7 := Z.k (Kd.R_below HO_7.out hb); replace HO_10 := Z.k (Kd.R_below HO_10.out hb); replace HO_1057001 := Z.k (Kd.R_below HO_1057001.out hb); replace HO_1057002 := Z.k (Kd.R_below HO_1057002.out hb); replace HO1069 := Z.k (Kd.R_below HO1069.out hb); replace BK1056 := Z.bb BK1056 hb; replace HB := Z.st (Z.bs HB.out GE1056.out) hb; (try clear hb); have hcz82 := Z.c3 BK1056.out) | ((with_reducible refine gate_callee (f := 30) rfl ?_); refine goesL_ (some 92) rfl rfl Try.func30 (by kernel_rfl) rfl #[.agg #[.int .i64 t1042, .slice Ao14 t1043.length co14, .slice Ao15 t1046.length co15], .slice Ao80 t1067.length co80, .slice Ao17 t1052.length co17, .int .i64 t1055] rfl Z.ar ?_; (with_reducible refine (impl_ChangesTo.calls k3 t1042 _ _ t1043 _ _ t1046 _ _ t1067 _ _ t1052 t1055 t1071 _ ?q1 ?q2 ?q3 ?q4 ?q5 ?q6 ?q7 ?q8 A47.out).mono ?_); (case q1 => exact (Kd.R_reads' HO_1057001.out).2.2); (case q2 => exact (Kd.R_reads' HO_1057001.out).2.1); (case q3 => exact (Kd.R_reads' HO_1057002.out).2.2); (case q4 => exact (Kd.R_reads' HO_1057002.out).2.1); (case q5 => exact (Kd.R_reads' HO1069.out).2.2); (case q6 => exact (Kd.R_reads' HO1069.out).2.1); (case q7 => exact (Kd.R_reads' HO_7.out).2.2); (case q8 => exact (Kd.R_reads' HO_7.out).2.1); rintro e w83 ⟨rfl, hb⟩; refine ⟨_, rfl, ?_⟩; replace HO_6 := Z.k (Kd.R_below HO_6.out hb); replace HO_7 := Z.k (Kd.R_below HO_7.out hb); replace HO_10 := Z.k (Kd.R_below HO_10.out hb); replace HO_1057001 := Z.k (Kd.R_below HO_1057001.out hb); replace HO_1057002 := Z.k (Kd.R_below HO_1057002.out hb); replace HO1069 := Z.k (Kd.R_below HO1069.out hb); replace BK1056 := Z.bb BK1056 hb; replace HB := Z.st (Z.bs HB.out GE1056.out) hb; (try clear hb)))
               go_roundg k3
               case measure => have := HJ2.out; have := HJ9.out; have := HK3.out; omega
               case rel => exact ⟨(wrap64 (x11_3 + 1)), (by rfl), H', ⟨by have := HJ2.out; have := HJ9.out; have := HK3.out; omega⟩, ⟨by exact Kd.R_mono HO_6.out (fun _ hk => ⟨hk.1.1, ⟨hk.1.2.1, hk.1.2.2⟩⟩)⟩, ⟨by exact Kd.R_mono HO_7.out (fun _ hk => ⟨hk.1.1, ⟨hk.1.2.1, hk.1.2.2⟩⟩)⟩, ⟨by exact Kd.R_mono HO_10.out (fun _ hk => ⟨hk.1.1, ⟨hk.1.2.1, hk.1.2.2⟩⟩)⟩, ⟨by exact Kd.R_mono HO_1057001.out (fun _ hk => ⟨hk.1.1, ⟨hk.1.2.1, hk.1.2.2⟩⟩)⟩, ⟨by exact HO_1057002.out⟩, ⟨by exact BK1056.out⟩, ⟨Z.bs HB.out GE1056.out⟩⟩
            ·rw [if_neg c57] at H
             have c57b0 : decide (0 ≤ t1071) = false := decide_eq_false c57
             clear c57
             have H' := Z.k H
             clear H
             obtain ⟨Ao84, co84, eo84⟩ := Kd.R_slice HO_10.out
             subst eo84
             try go_wp2
             replace HO_6 := Z.k (Kd.R_drew HO_6.out)
             replace HO_7 := Z.k (Kd.R_drew HO_7.out)
             replace HO_10 := Z.k (Kd.R_drew HO_10.out)
             replace HO_1057001 := Z.k (Kd.R_drew HO_1057001.out)
             replace HO_1057002 := Z.k (Kd.R_drew HO_1057002.out)
             replace BK1056 := Z.k (blk_drew BK1056.out)
             replace HB := Z.k (below_drew1 HB.out)
             have p1066 : 0 ≤ (x11_3 : Int) := Z.od
             have q1066 : x11_3 < (t1063.length : Int) := Z.od
             obtain ⟨ad1066, e1066, hx1066_0⟩ := Kd.at_int (Kd.R_reads' HO_10.out).2.2 x11_3 p1066 q1066
             cases e1066
             replace p1066 := eq_true p1066
             replace q1066 := eq_true q1066
             refine start_ (n := 7) (S := fun w' => w'.cell? ⟨gb1056, 0, none⟩ = some (.int .i64 t1042) ∧ w'.cell? ⟨gb1056, 1, none⟩ = some (.slice Ao14 t1043.length co14) ∧ w'.cell? ⟨gb1056, 2, none⟩ = some (.slice Ao15 t1046.length co15) ∧ w'.cell? (ad1066.add (x11_3).toNat) = some (.int .i64 (rd t1063 x11_3))) (ds := []) #[false, false, false, false, false, false, false] (by kernel_rfl) rfl rfl ⟨(blk_cell BK1056.out 0).trans rfl, (blk_cell BK1056.out 1).trans rfl, (blk_cell BK1056.out 2).trans rfl, hx1066_0⟩ (fun hHeld => ?_)
             generalize wr.drew = w85 at HO_6 HO_7 HO_10 HO_1057001 HO_1057002 BK1056 HB hx1066_0 hHeld ⊢
             refine pure_ (i := 1) (N := some 78) (v := ?_) (a' := ?_) #[false, true, false, false, false, false, false] rfl rfl (by kernel_rfl) (fun _ _ _ h => h) (Or.inl ⟨by rfl, ?_⟩) ?_ ?_
             rotate_left
             ·intro w'
              go_simp
              with_reducible rfl
             rotate_left
             ·simp only [Act.put, List.setIfInBounds_toArray, List.set_cons_zero, List.set_cons_succ, i64_w, i32_w]
              rfl
             refine pure_ (i := 2) (N := some 79) (v := ?_) (a' := ?_) #[false, true, true, false, false, false, false] rfl rfl (by kernel_rfl) (fun _ _ _ h => h) (Or.inl ⟨by rfl, ?_⟩) ?_ ?_
             rotate_left
             ·intro w'
              go_simp
              with_reducible rfl
             rotate_left
             ·simp only [Act.put, List.setIfInBounds_toArray, List.set_cons_zero, List.set_cons_succ, i64_w, i32_w]
              rfl
             refine pure_ (i := 3) (N := some 80) (v := ?_) (a' := ?_) #[false, true, true, true, false, false, false] rfl rfl (by kernel_rfl) (fun _ _ _ h => h) (Or.inl ⟨by rfl, ?_⟩) ?_ ?_
             rotate_left
             ·intro w'
              go_simp
              with_reducible rfl
             rotate_left
             ·simp only [Act.put, List.setIfInBounds_toArray, List.set_cons_zero, List.set_cons_succ, i64_w, i32_w]
              rfl
             refine take_ (i := 0) (N := some 77) (v := ?_) (a' := ?_) #[true, true, true, true, false, false, false] rfl rfl (by kernel_rfl) (fun _ _ _ h => h) (Or.inl ⟨by rfl, ?_⟩) hHeld ?_ ?_
             rotate_left
             ·rintro w' ⟨s0, s1, s2, s3⟩
              go_simp
              with_reducible rfl
             rotate_left
             ·simp only [Act.put, List.setIfInBounds_toArray, List.set_cons_zero, List.set_cons_succ, i64_w, i32_w]
              rfl
             refine take_ (i := 4) (N := some 81) (v := ?_) (a' := ?_) #[true, true, true, true, true, false, false] rfl rfl (by kernel_rfl) (fun _ _ _ h => h) (Or.inl ⟨by rfl, ?_⟩) hHeld ?_ ?_
             rotate_left
             ·rintro w' ⟨s0, s1, s2, s3⟩
              go_simp
              with_reducible rfl
             rotate_left
             ·simp only [Act.put, List.setIfInBounds_toArray, List.set_cons_zero, List.set_cons_succ, i64_w, i32_w]
              rfl
             refine one_ (i := 5) (N := some 82) (Z.mb 7 63) rfl rfl (by kernel_rfl) (by decide) (fun K hK => ?_)
             refine goes_ Try.func38 (by kernel_rfl) rfl #[.agg #[.int .i64 t1042, .slice Ao14 t1043.length co14, .slice Ao15 t1046.length co15], .int .i64 (rd t1063 x11_3)] (by rfl) rfl rfl Z.ar ?_
             with_reducible refine (laws_stateOf.calls k3 t1042 _ _ t1043 _ _ t1046 (rd t1063 x11_3) t1067 _ ?q1 ?q2 ?q3 ?q4 A45.out).mono ?_
             (case q1 => exact (Kd.R_reads' HO_1057001.out).2.2)
             (case q2 => exact (Kd.R_reads' HO_1057001.out).2.1)
             (case q3 => exact (Kd.R_reads' HO_1057002.out).2.2)
             (case q4 => exact (Kd.R_reads' HO_1057002.out).2.1)
             rintro e w86 ⟨v1068, rfl, ho0, hb⟩
             have HS3_ := (hb.cell (World.block_lt_of_cell? _ _ (hHeld.2.2.2))).trans (hHeld.2.2.2)
             refine ⟨_, rfl, ?_⟩
             replace HO_1057002 := Z.k (Kd.R_below HO_1057002.out hb)
             have HO1069 := Z.k (Kd.R_lower (Kd.R_new' (Kd.R_new' (Kd.R_new' (Kd.R_new' ho0 (Kd.R_lt HO_6.out)) (Kd.R_lt HO_7.out)) (Kd.R_lt HO_10.out)) (Kd.R_lt HO_1057001.out)) (below_size (Z.bs HB.out GE1056.out)))
             replace HO_6 := Z.k (Kd.R_elder' HO_6.out (Kd.R_base ho0) hb)
             replace HO_7 := Z.k (Kd.R_elder' HO_7.out (Kd.R_base ho0) hb)
             replace HO_10 := Z.k (Kd.R_elder' HO_10.out (Kd.R_base ho0) hb)
             replace HO_1057001 := Z.k (Kd.R_elder' HO_1057001.out (Kd.R_base ho0) hb)
             replace BK1056 := Z.bb BK1056 hb
             replace HB := Z.st (Z.bs HB.out GE1056.out) hb
             (try clear hb)
             (try clear ho0)
             refine hK.out _ _ ⟨(blk_cell BK1056.out 0).trans rfl, (blk_cell BK1056.out 1).trans rfl, (blk_cell BK1056.out 2).trans rfl, HS3_⟩ (fun hHeld => ?_)
             clear hK K
             refine Z.nm ?_
             refine pure_ (i := 6) (N := some 12) (v := ?_) (a' := ?_) #[true, true, true, true, true, true, true] rfl rfl (by kernel_rfl) (fun _ _ _ h => h) (Or.inl ⟨by rfl, ?_⟩) ?_ ?_
             rotate_left
             ·intro w'
              go_simp
              with_reducible rfl
             rotate_left
             ·simp only [Act.put, List.setIfInBounds_toArray, List.set_cons_zero, List.set_cons_succ, i64_w, i32_w]
              rfl
             refine done_ (by kernel_rfl) ?_
             have hcz87 := Z.c3 BK1056.out
             obtain ⟨Ao88, co88, eo88⟩ := Kd.R_slice HO1069.out
             subst eo88
             try go_wp2_with (first | ((with_reducible refine gate_callee (f := 30) rfl ?_); refine goesL_ (some 87) rfl rfl Try.func30 (by kernel_rfl) rfl #[.agg #[.int .i64 t1042, .slice Ao14 t1043.length co14, .slice Ao15 t1046.length co15], .slice Ao16 t1049.length co16, .slice Ao88 t1067.length co88, .int .i64 t1055] rfl Z.ar ?_; (with_reducible refine (impl_ChangesTo.calls k3 t1042 _ _ t1043 _ _ t1046 _ _ t1049 _ _ t1067 t1055 t1070 _ ?q1 ?q2 ?q3 ?q4 ?q5 ?q6 ?q7 ?q8 A46.out).mono ?_); (case q1 => exact (Kd.R_reads' HO_1057001.out).2.2); (case q2 => exact (Kd.R_reads' HO_1057001.out).2.1); (case q3 => exact (Kd.R_reads' HO_1057002.out).2.2); (case q4 => exact (Kd.R_reads' HO_1057002.out).2.1); (case q5 => exact (Kd.R_reads' HO_6.out).2.2); (case q6 => exact (Kd.R_reads' HO_6.out).2.1); (case q7 => exact (Kd.R_reads' HO1069.out).2.2); (case q8 => exact (Kd.R_reads' HO1069.out).2.1); rintro e w89 ⟨rfl, hb⟩; refine ⟨_, rfl, ?_⟩; replace HO_6 := Z.k (Kd.R_below HO_6.out hb); replace HO_7 := Z.k (Kd.R_below HO_7.out hb); replace HO_10 := Z.k (Kd.R_below HO_10.out hb); replace HO_1057001 := Z.k (Kd.R_below HO_1057001.out hb); replace HO_1057002 := Z.k (Kd.R_below HO_1057002.out hb); replace HO1069 := Z.k (Kd.R_below HO1069.out hb); replace BK1056 := Z.bb BK1056 hb; replace HB := Z.st (Z.bs HB.out GE1056.out) hb; (try clear hb); have hcz90 := Z.c3 BK1056.out) | ((with_reducible refine gate_callee (f := 30) rfl ?_); refine goesL_ (some 92) rfl rfl Try.func30 (by kernel_rfl) rfl #[.agg #[.int .i64 t1042, .slice Ao14 t1043.length co14, .slice Ao15 t1046.length co15], .slice Ao88 t1067.length co88, .slice Ao17 t1052.length co17, .int .i64 t1055] rfl Z.ar ?_; (with_reducible refine (impl_ChangesTo.calls k3 t1042 _ _ t1043 _ _ t1046 _ _ t1067 _ _ t1052 t1055 t1071 _ ?q1 ?q2 ?q3 ?q4 ?q5 ?q6 ?q7 ?q8 A47.out).mono ?_); (case q1 => exact (Kd.R_reads' HO_1057001.out).2.2); (case q2 => exact (Kd.R_reads' HO_1057001.out).2.1); (case q3 => exact (Kd.R_reads' HO_1057002.out).2.2); (case q4 => exact (Kd.R_reads' HO_1057002.out).2.1); (case q5 => exact (Kd.R_reads' HO1069.out).2.2); (case q6 => exact (Kd.R_reads' HO1069.out).2.1); (case q7 => exact (Kd.R_reads' HO_7.out).2.2); (case q8 => exact (Kd.R_reads' HO_7.out).2.1); rintro e w91 ⟨rfl, hb⟩; refine ⟨_, rfl, ?_⟩; replace HO_6 := Z.k (Kd.R_below HO_6.out hb); replace HO_7 := Z.k (Kd.R_below HO_7.out hb); replace HO_10 := Z.k (Kd.R_below HO_10.out hb); replace HO_1057001 := Z.k (Kd.R_below HO_1057001.out hb); replace HO_1057002 := Z.k (Kd.R_below HO_1057002.out hb); replace HO1069 := Z.k (Kd.R_below HO1069.out hb); replace BK1056 := Z.bb BK1056 hb; replace HB := Z.st (Z.bs HB.out GE1056.out) hb; (try clear hb)))
             go_roundg k3
             case measure => have := HJ2.out; have := HJ9.out; have := HK3.out; omega
             case rel => exact ⟨(wrap64 (x11_3 + 1)), (by rfl), H', ⟨by have := HJ2.out; have := HJ9.out; have := HK3.out; omega⟩, ⟨by exact Kd.R_mono HO_6.out (fun _ hk => ⟨hk.1.1, ⟨hk.1.2.1, hk.1.2.2⟩⟩)⟩, ⟨by exact Kd.R_mono HO_7.out (fun _ hk => ⟨hk.1.1, ⟨hk.1.2.1, hk.1.2.2⟩⟩)⟩, ⟨by exact Kd.R_mono HO_10.out (fun _ hk => ⟨hk.1.1, ⟨hk.1.2.1, hk.1.2.2⟩⟩)⟩, ⟨by exact Kd.R_mono HO_1057001.out (fun _ hk => ⟨hk.1.1, ⟨hk.1.2.1, hk.1.2.2⟩⟩)⟩, ⟨by exact HO_1057002.out⟩, ⟨by exact BK1056.out⟩, ⟨Z.bs HB.out GE1056.out⟩⟩
          ·rw [if_neg c43] at H
           have c43b0 := decide_eq_false c43
           clear c43
           have HC92 := Z.k H
           clear H
           obtain ⟨Ao93, co93, eo93⟩ := Kd.R_slice HO_10.out
           subst eo93
           go_upto_if 112 with (fail)
           go_cut [15] (fun v15 wc => ∃ (kq : Nat) (x15_91 : Int), v15 = .int .i64 x15_91 ∧ Aside0 (laws_FnChangesTo.j3 kq t1049 t1052 t1055 t1057 t1063 x15_91 t1042 t1043 t1046 = some r) ∧ Aside0 (kq ≤ k3) ∧ Aside0 (Kd.R (Kd.int .i64) 3 wc w.heap.size (fun k_ => some k_ ≠ ((.slice Ao17 t1052.length co17) : Value).ownBlock ∧ some k_ ≠ ((.slice Ao93 t1063.length co93) : Value).ownBlock ∧ some k_ ≠ ((.slice Ao14 t1043.length co14) : Value).ownBlock) (.slice Ao16 t1049.length co16) t1049) ∧ Aside0 (Kd.R (Kd.int .i64) 3 wc w.heap.size (fun k_ => some k_ ≠ ((.slice Ao16 t1049.length co16) : Value).ownBlock ∧ some k_ ≠ ((.slice Ao93 t1063.length co93) : Value).ownBlock ∧ some k_ ≠ ((.slice Ao14 t1043.length co14) : Value).ownBlock) (.slice Ao17 t1052.length co17) t1052) ∧ Aside0 (Kd.R (Kd.int .i64) 3 wc w.heap.size (fun k_ => some k_ ≠ ((.slice Ao16 t1049.length co16) : Value).ownBlock ∧ some k_ ≠ ((.slice Ao17 t1052.length co17) : Value).ownBlock ∧ some k_ ≠ ((.slice Ao14 t1043.length co14) : Value).ownBlock) (.slice Ao93 t1063.length co93) t1063) ∧ Aside0 (Kd.R (Kd.int .i64) 3 wc w.heap.size (fun k_ => some k_ ≠ ((.slice Ao16 t1049.length co16) : Value).ownBlock ∧ some k_ ≠ ((.slice Ao17 t1052.length co17) : Value).ownBlock ∧ some k_ ≠ ((.slice Ao93 t1063.length co93) : Value).ownBlock) (.slice Ao14 t1043.length co14) t1043) ∧ Aside0 (Kd.R (Kd.slice 37 k37) 34 wc w.heap.size (fun _ => True) (.slice Ao15 t1046.length co15) t1046) ∧ Aside0 (wc.heap[gb1056]? = some (.cells #[.int .i64 t1042, (.slice Ao14 t1043.length co14), (.slice Ao15 t1046.length co15)] 28 (0, 0))) ∧ Aside0 (Below w.heap.size w wc))
           case first =>
            have H := HC92.out
            clear HC92
            by_cases c94 : (l1.length : Int) > 0
            ·rw [if_pos c94] at H
             have c94b0 : decide (0 < (l1.length : Int)) = true := decide_eq_true c94
             have c94b1 : decide (0 < l1.length) = true := decide_eq_true (by omega)
             clear c94
             (rw [c94b1])
             obtain ⟨c95, H⟩ := Z.ifp H
             have c95b0 : decide (0 < (l1.length : Int)) = true := decide_eq_true c95
             have c95b1 : decide (0 < l1.length) = true := decide_eq_true (by omega)
             clear c95
             obtain ⟨c96, H⟩ := Z.ifq H
             have c96b0 : (t1042 == 0) = false := beq_eq_false_iff_ne.mpr c96
             have c96b1 : (t1042 != 0) = true := bne_iff_ne.mpr c96
             have H' := Z.k H
             clear H
             try go_wp2
             replace HO_6 := Z.k (Kd.R_drew HO_6.out)
             replace HO_7 := Z.k (Kd.R_drew HO_7.out)
             replace HO_10 := Z.k (Kd.R_drew HO_10.out)
             replace HO_1057001 := Z.k (Kd.R_drew HO_1057001.out)
             replace HO_1057002 := Z.k (Kd.R_drew HO_1057002.out)
             replace BK1056 := Z.k (blk_drew BK1056.out)
             replace HB := Z.k (below_drew1 HB.out)
             have p1072 : 0 ≤ (0 : Int) := (by omega)
             have q1072 : 0 < (l1.length : Int) := Z.od
             obtain ⟨ad1072, e1072, hx1072_0⟩ := Kd.at_int HR1.out 0 p1072 q1072
             have hw1072_0 := hx1072_0
             (try rw [show ((0 : Int)).toNat = 0 from rfl] at hw1072_0)
             (try rw [Addr.add_zero'] at hw1072_0)
             cases e1072
             have qi1072 : (0 < l1.length) = True := eq_true (by omega)
             (try rw [show ((0 : Int)).toNat = 0 from rfl] at hx1072_0)
             (try rw [Addr.add_zero'] at hx1072_0)
             replace hx1072_0 := Z.up HB.out hx1072_0
             replace p1072 := eq_true p1072
             replace q1072 := eq_true q1072
             refine start_ (n := 9) (S := fun w' => w'.cell? ⟨gb1056, 0, none⟩ = some (.int .i64 t1042) ∧ w'.cell? ⟨gb1056, 1, none⟩ = some (.slice Ao14 t1043.length co14) ∧ w'.cell? ⟨gb1056, 2, none⟩ = some (.slice Ao15 t1046.length co15) ∧ w'.cell? ad1072 = some (.int .u8 (rd l1 0))) (ds := []) #[false, false, false, false, false, false, false, false, false] (by kernel_rfl) rfl rfl ⟨(blk_cell BK1056.out 0).trans rfl, (blk_cell BK1056.out 1).trans rfl, (blk_cell BK1056.out 2).trans rfl, (Z.up HB.out hw1072_0 :)⟩ (fun hHeld => ?_); refine with_tabW laws_FnChangesTo.tab20 laws_FnChangesTo.bits20 (fun HT_ HW_ => ?_)
             generalize wr.drew = w97 at HO_6 HO_7 HO_10 HO_1057001 HO_1057002 BK1056 HB hx1072_0 hHeld ⊢
             refine Z.pv 0 113 9 1 HT_.out ?_
             refine Z.pv 1 114 9 3 HT_.out ?_
             refine Z.pv 4 117 9 19 HT_.out ?_
             refine Z.pv 5 118 9 51 HT_.out ?_
             refine Z.t4 2 115 9 55 HT_.out HW_.out hHeld ?_
             refine Z.pv 3 116 9 63 HT_.out ?_
             refine Z.t4 6 119 9 127 HT_.out HW_.out hHeld ?_
             refine Z.pv 7 120 9 255 HT_.out ?_
             refine Z.pv 8 15 9 511 HT_.out ?_
             refine done_ (done_of HT_.out (by kernel_rfl)) ?_
             try go_wp2
             go_meet
             case rel => exact ⟨_, (Int.tmod (wrap64 (rd l1 0)) t1042), (by rfl), H', ⟨by have := HJ2.out; have := HJ9.out; have := HK3.out; omega⟩, ⟨by exact HO_6.out⟩, ⟨by exact HO_7.out⟩, ⟨by exact HO_10.out⟩, ⟨by exact HO_1057001.out⟩, ⟨by exact HO_1057002.out⟩, ⟨by exact BK1056.out⟩, ⟨Z.bs HB.out GE1056.out⟩⟩
            ·rw [if_neg c94] at H
             have c94b0 : decide (0 < (l1.length : Int)) = false := decide_eq_false c94
             have c94b1 : decide (0 < l1.length) = false := decide_eq_false (by omega)
             clear c94
             (rw [c94b1])
             have H' := Z.k H
             clear H
             go_wp2
             go_meet
             case rel => exact ⟨_, (0), (by rfl), H', ⟨by have := HJ2.out; have := HJ9.out; have := HK3.out; omega⟩, ⟨by exact HO_6.out⟩, ⟨by exact HO_7.out⟩, ⟨by exact HO_10.out⟩, ⟨by exact HO_1057001.out⟩, ⟨by exact HO_1057002.out⟩, ⟨by exact BK1056.out⟩, ⟨Z.bs HB.out GE1056.out⟩⟩
           case rest =>
            clear HC92
            try clear c43b0
            obtain ⟨kq, x15_91, rfl, HA, HJ91, HO_6, HO_7, HO_10, HO_1057001, HO_1057002, BK1056, HB⟩ := hcut
            cases kq with
            | zero => exact absurd HA.out (by simp [laws_FnChangesTo.j3])
            | succ kj91 =>
             have H := HA.out
             clear HA
             simp only [laws_FnChangesTo.j3] at H
             obtain ⟨c98, H⟩ := Z.ifp H
             have c98b0 := eq_true c98
             have c98b1 : decide (0 ≤ x15_91) = true := decide_eq_true c98
             clear c98
             obtain ⟨ji99, hji99⟩ : ∃ j_ : Int, (shl .i64 1 x15_91) = j_ := ⟨_, rfl⟩
             replace H : ((impl_ChangesTo.f kj91 t1042 t1043 t1046 t1049 t1052 (Go.bits .or .i64 t1055 (ji99))).bind fun t1073 => ((impl_StateNumber.f kj91 t1042 t1043 t1046 t1052).bind fun t1074 => ((laws_hasInt.f kj91 t1063 t1074).bind fun t1075 => (if ((decide (t1057 ≥ 0)) == t1075) = true then ((laws_sameInts.f kj91 t1049 t1052).bind fun t1076 => (if ((t1057 == 0) == t1076) = true then (if t1057 < 0 then (some true) else (if t1073 ≥ 0 then (some (decide (t1073 ≤ t1057))) else (some false))) else (some false))) else (some false))))) = some r := by (rw [hji99] at H; exact H)
             have hji99_ : (IntKind.i64.wrap (1 * 2 ^ min x15_91.toNat 64)) = ji99 := hji99
             have hji99z : x15_91 ≤ 64 → (IntKind.i64.wrap (1 * 2 ^ x15_91.toNat)) = ji99 := shl_small hji99
             have hji99u : (IntKind.i64.wrap (2 ^ min x15_91.toNat 64)) = ji99 := by have h_ := hji99_; rw [Int.one_mul] at h_; exact h_
             have hji99v : x15_91 ≤ 64 → (IntKind.i64.wrap (2 ^ x15_91.toNat)) = ji99 := fun hle_ => by have h_ := hji99z hle_; rw [Int.one_mul] at h_; exact h_
             have hji99y : (wrap64 (1 * 2 ^ min x15_91.toNat 64)) = ji99 := (i64_w _).symm.trans hji99_
             have hji99x : x15_91 ≤ 64 → (wrap64 (1 * 2 ^ x15_91.toNat)) = ji99 := fun h_ => (i64_w _).symm.trans (hji99z h_)
             replace H := Option.bind_eq_some_iff.mp H
             obtain ⟨t1073, A1000, H⟩ := H
             have A100 := Z.k A1000
             clear A1000
             replace H := Option.bind_eq_some_iff.mp H
             obtain ⟨t1074, A1010, H⟩ := H
             have A101 := Z.k A1010
             clear A1010
             replace H := Option.bind_eq_some_iff.mp H
             obtain ⟨t1075, A1020, H⟩ := H
             have A102 := Z.k A1020
             clear A1020
             by_cases c103 : ((decide (t1057 ≥ 0)) == t1075) = true
             ·rw [if_pos c103] at H
              have c103b0 : ((decide (t1057 ≥ 0)) == t1075) = true := c103
              (try (have c103b1 : decide ((decide (t1057 ≥ 0)) = t1075) = true := by simpa using c103))
              (try (have c103b2 : ((decide (t1057 ≥ 0)) == t1075) = true := by simpa using c103))
              clear c103
              replace H := Option.bind_eq_some_iff.mp H
              obtain ⟨t1076, A1040, H⟩ := H
              have A104 := Z.k A1040
              clear A1040
              by_cases c105 : ((t1057 == 0) == t1076) = true
              ·rw [if_pos c105] at H
               have c105b0 : ((t1057 == 0) == t1076) = true := c105
               (try (have c105b1 : decide ((t1057 == 0) = t1076) = true := by simpa using c105))
               (try (have c105b2 : ((t1057 == 0) == t1076) = true := by simpa using c105))
               clear c105
               by_cases c106 : t1057 < 0
               ·rw [if_pos c106] at H
                have c106b0 := decide_eq_true c106
                clear c106
                obtain rfl := Option.some.inj H
                try go_wp2
                replace HO_6 := Z.k (Kd.R_drew HO_6.out)
                replace HO_7 := Z.k (Kd.R_drew HO_7.out)
                replace HO_10 := Z.k (Kd.R_drew HO_10.out)
                replace HO_1057001 := Z.k (Kd.R_drew HO_1057001.out)
                replace HO_1057002 := Z.k (Kd.R_drew HO_1057002.out)
                replace BK1056 := Z.k (blk_drew BK1056.out)
                replace HB := Z.k (below_drew1 HB.out)
                refine start_ (n := 9) (S := fun w' => w'.cell? ⟨gb1056, 0, none⟩ = some (.int .i64 t1042) ∧ w'.cell? ⟨gb1056, 1, none⟩ = some (.slice Ao14 t1043.length co14) ∧ w'.cell? ⟨gb1056, 2, none⟩ = some (.slice Ao15 t1046.length co15)) (ds := []) #[false, false, false, false, false, false, false, false, false] (by kernel_rfl) rfl rfl ⟨(blk_cell BK1056.out 0).trans rfl, (blk_cell BK1056.out 1).trans rfl, (blk_cell BK1056.out 2).trans rfl⟩ (fun hHeld => ?_); refine with_tabW laws_FnChangesTo.tab21 laws_FnChangesTo.bits21 (fun HT_ HW_ => ?_)
                generalize wc.drew = w107 at HO_6 HO_7 HO_10 HO_1057001 HO_1057002 BK1056 HB hHeld ⊢
                refine Z.pv 1 122 9 2 HT_.out ?_
                refine Z.pv 2 123 9 6 HT_.out ?_
                refine Z.pv 3 124 9 14 HT_.out ?_
                refine Z.pv 4 125 9 30 HT_.out ?_
                refine Z.pv 5 126 9 62 HT_.out ?_
                refine Z.pv 6 127 9 126 HT_.out ?_
                refine Z.t3 0 121 9 127 HT_.out HW_.out hHeld ?_
                refine one_ (i := 7) (N := some 128) (Z.mb 9 255) rfl rfl (one_of HT_.out (by kernel_rfl)) (by decide) (fun K hK => ?_)
                refine goes_ Try.func30 (by kernel_rfl) rfl #[.agg #[.int .i64 t1042, .slice Ao14 t1043.length co14, .slice Ao15 t1046.length co15], .slice Ao16 t1049.length co16, .slice Ao17 t1052.length co17, .int .i64 (Go.bits .or .i64 t1055 (ji99))] (by rfl) rfl rfl (by (try simp only [List.map_toArray, List.map_cons, List.map_nil]); rfl) ?_
                with_reducible refine (impl_ChangesTo.calls kj91 t1042 _ _ t1043 _ _ t1046 _ _ t1049 _ _ t1052 (Go.bits .or .i64 t1055 (ji99)) t1073 _ ?q1 ?q2 ?q3 ?q4 ?q5 ?q6 ?q7 ?q8 A100.out).mono ?_
                (case q1 => exact (Kd.R_reads' HO_1057001.out).2.2)
                (case q2 => exact (Kd.R_reads' HO_1057001.out).2.1)
                (case q3 => exact (Kd.R_reads' HO_1057002.out).2.2)
                (case q4 => exact (Kd.R_reads' HO_1057002.out).2.1)
                (case q5 => exact (Kd.R_reads' HO_6.out).2.2)
                (case q6 => exact (Kd.R_reads' HO_6.out).2.1)
                (case q7 => exact (Kd.R_reads' HO_7.out).2.2)
                (case q8 => exact (Kd.R_reads' HO_7.out).2.1)
                rintro e w108 ⟨rfl, hb⟩
                refine ⟨_, rfl, ?_⟩
                replace HO_6 := Z.k (Kd.R_below HO_6.out hb)
                replace HO_7 := Z.k (Kd.R_below HO_7.out hb)
                replace HO_10 := Z.k (Kd.R_below HO_10.out hb)
                replace HO_1057001 := Z.k (Kd.R_below HO_1057001.out hb)
                replace HO_1057002 := Z.k (Kd.R_below HO_1057002.out hb)
                replace BK1056 := Z.bb BK1056 hb
                replace HB := Z.st (Z.bs HB.out GE1056.out) hb
                (try clear hb)
                refine hK.out _ _ ⟨(blk_cell BK1056.out 0).trans rfl, (blk_cell BK1056.out 1).trans rfl, (blk_cell BK1056.out 2).trans rfl⟩ (fun hHeld => ?_)
                clear hK K
                refine Z.nm ?_
                refine Z.pv 8 16 9 511 HT_.out ?_
                refine done_ (done_of HT_.out (by kernel_rfl)) ?_
                have hcz109 := Z.c3 BK1056.out
                try go_wp2_with (first | ((with_reducible refine gate_callee (f := 29) rfl ?_); refine goesL_ (some 134) rfl rfl Try.func29 (by kernel_rfl) rfl #[.agg #[.int .i64 t1042, .slice Ao14 t1043.length co14, .slice Ao15 t1046.length co15], .slice Ao17 t1052.length co17] rfl Z.ar ?_; (with_reducible refine (impl_StateNumber.calls kj91 t1042 _ _ t1043 _ _ t1046 _ _ t1052 t1074 _ ?q1 ?q2 ?q3 ?q4 ?q5 ?q6 A101.out).mono ?_); (case q1 => exact (Kd.R_reads' HO_1057001.out).2.2); (case q2 => exact (Kd.R_reads' HO_1057001.out).2.1); (case q3 => exact (Kd.R_reads' HO_1057002.out).2.2); (case q4 => exact (Kd.R_reads' HO_1057002.out).2.1); (case q5 => exact (Kd.R_reads' HO_7.out).2.2); (case q6 => exact (Kd.R_reads' HO_7.out).2.1); rintro e w110 ⟨rfl, hb⟩; refine ⟨_, rfl, ?_⟩; replace HO_6 := Z.k (Kd.R_below HO_6.out hb); replace HO_7 := Z.k (Kd.R_below HO_7.out hb); replace HO_10 := Z.k (Kd.R_below HO_10.out hb); replace HO_1057001 := Z.k (Kd.R_below HO_1057001.out hb); replace HO_1057002 := Z.k (Kd.R_below HO_1057002.out hb); replace BK1056 := Z.bb BK1056 hb; replace HB := Z.st (Z.bs HB.out GE1056.out) hb; (try clear hb)) | ((with_reducible refine gate_callee (f := 28) rfl ?_); refine goesL_ (some 135) rfl rfl Try.func28 (by kernel_rfl) rfl #[.slice Ao93 t1063.length co93, .int .i64 t1074] rfl Z.ar ?_; (with_reducible refine (laws_hasInt.calls kj91 _ _ t1063 t1074 t1075 _ ?q1 ?q2 A102.out).mono ?_); (case q1 => exact (Kd.R_reads' HO_10.out).2.2); (case q2 => exact (Kd.R_reads' HO_10.out).2.1); rintro e w' ⟨rfl, ⟨nd, rfl⟩⟩; refine ⟨_, rfl, ?_⟩) | (go_at_call 34; (with_reducible refine (laws_sameInts.calls kj91 _ _ t1049 _ _ t1052 t1076 _ ?q1 ?q2 ?q3 ?q4 A104.out).mono ?_); (case q1 => exact (Kd.R_reads' HO_6.out).2.2); (case q2 => exact (Kd.R_reads' HO_6.out).2.1); (case q3 => exact (Kd.R_reads' HO_7.out).2.2); (case q4 => exact (Kd.R_reads' HO_7.out).2.1); rintro e w' ⟨rfl, ⟨nd, rfl⟩⟩))
                go_ret
                exact ⟨by rfl, Z.bs HB.out GE1056.out⟩
               ·rw [if_neg c106] at H
                have c106b0 := decide_eq_false c106
                clear c106
                by_cases c111 : t1073 ≥ 0
                ·rw [if_pos c111] at H
                 have c111b0 : decide (0 ≤ t1073) = true := decide_eq_true c111
                 clear c111
                 obtain rfl := Option.some.inj H
                 try go_wp2
                 replace HO_6 := Z.k (Kd.R_drew HO_6.out)
                 replace HO_7 := Z.k (Kd.R_drew HO_7.out)
                 replace HO_10 := Z.k (Kd.R_drew HO_10.out)
                 replace HO_1057001 := Z.k (Kd.R_drew HO_1057001.out)
                 replace HO_1057002 := Z.k (Kd.R_drew HO_1057002.out)
                 replace BK1056 := Z.k (blk_drew BK1056.out)
                 replace HB := Z.k (below_drew1 HB.out)
                 refine start_ (n := 9) (S := fun w' => w'.cell? ⟨gb1056, 0, none⟩ = some (.int .i64 t1042) ∧ w'.cell? ⟨gb1056, 1, none⟩ = some (.slice Ao14 t1043.length co14) ∧ w'.cell? ⟨gb1056, 2, none⟩ = some (.slice Ao15 t1046.length co15)) (ds := []) #[false, false, false, false, false, false, false, false, false] (by kernel_rfl) rfl rfl ⟨(blk_cell BK1056.out 0).trans rfl, (blk_cell BK1056.out 1).trans rfl, (blk_cell BK1056.out 2).trans rfl⟩ (fun hHeld => ?_); refine with_tabW laws_FnChangesTo.tab21 laws_FnChangesTo.bits21 (fun HT_ HW_ => ?_)
                 generalize wc.drew = w112 at HO_6 HO_7 HO_10 HO_1057001 HO_1057002 BK1056 HB hHeld ⊢
                 refine Z.pv 1 122 9 2 HT_.out ?_
                 refine Z.pv 2 123 9 6 HT_.out ?_
                 refine Z.pv 3 124 9 14 HT_.out ?_
                 refine Z.pv 4 125 9 30 HT_.out ?_
                 refine Z.pv 5 126 9 62 HT_.out ?_
                 refine Z.pv 6 127 9 126 HT_.out ?_
                 refine Z.t3 0 121 9 127 HT_.out HW_.out hHeld ?_
                 refine one_ (i := 7) (N := some 128) (Z.mb 9 255) rfl rfl (one_of HT_.out (by kernel_rfl)) (by decide) (fun K hK => ?_)
                 refine goes_ Try.func30 (by kernel_rfl) rfl #[.agg #[.int .i64 t1042, .slice Ao14 t1043.length co14, .slice Ao15 t1046.length co15], .slice Ao16 t1049.length co16, .slice Ao17 t1052.length co17, .int .i64 (Go.bits .or .i64 t1055 (ji99))] (by rfl) rfl rfl (by (try simp only [List.map_toArray, List.map_cons, List.map_nil]); rfl) ?_
                 with_reducible refine (impl_ChangesTo.calls kj91 t1042 _ _ t1043 _ _ t1046 _ _ t1049 _ _ t1052 (Go.bits .or .i64 t1055 (ji99)) t1073 _ ?q1 ?q2 ?q3 ?q4 ?q5 ?q6 ?q7 ?q8 A100.out).mono ?_
                 (case q1 => exact (Kd.R_reads' HO_1057001.out).2.2)
                 (case q2 => exact (Kd.R_reads' HO_1057001.out).2.1)
                 (case q3 => exact (Kd.R_reads' HO_1057002.out).2.2)
                 (case q4 => exact (Kd.R_reads' HO_1057002.out).2.1)
                 (case q5 => exact (Kd.R_reads' HO_6.out).2.2)
                 (case q6 => exact (Kd.R_reads' HO_6.out).2.1)
                 (case q7 => exact (Kd.R_reads' HO_7.out).2.2)
                 (case q8 => exact (Kd.R_reads' HO_7.out).2.1)
                 rintro e w113 ⟨rfl, hb⟩
                 refine ⟨_, rfl, ?_⟩
                 replace HO_6 := Z.k (Kd.R_below HO_6.out hb)
                 replace HO_7 := Z.k (Kd.R_below HO_7.out hb)
                 replace HO_10 := Z.k (Kd.R_below HO_10.out hb)
                 replace HO_1057001 := Z.k (Kd.R_below HO_1057001.out hb)
                 replace HO_1057002 := Z.k (Kd.R_below HO_1057002.out hb)
                 replace BK1056 := Z.bb BK1056 hb
                 replace HB := Z.st (Z.bs HB.out GE1056.out) hb
                 (try clear hb)
                 refine hK.out _ _ ⟨(blk_cell BK1056.out 0).trans rfl, (blk_cell BK1056.out 1).trans rfl, (blk_cell BK1056.out 2).trans rfl⟩ (fun hHeld => ?_)
                 clear hK K
                 refine Z.nm ?_
                 refine Z.pv 8 16 9 511 HT_.out ?_
                 refine done_ (done_of HT_.out (by kernel_rfl)) ?_
                 have hcz114 := Z.c3 BK1056.out
                 try go_wp2_with (first | ((with_reducible refine gate_callee (f := 29) rfl ?_); refine goesL_ (some 134) rfl rfl Try.func29 (by kernel_rfl) rfl #[.agg #[.int .i64 t1042, .slice Ao14 t1043.length co14, .slice Ao15 t1046.length co15], .slice Ao17 t1052.length co17] rfl Z.ar ?_; (with_reducible refine (impl_StateNumber.calls kj91 t1042 _ _ t1043 _ _ t1046 _ _ t1052 t1074 _ ?q1 ?q2 ?q3 ?q4 ?q5 ?q6 A101.out).mono ?_); (case q1 => exact (Kd.R_reads' HO_1057001.out).2.2); (case q2 => exact (Kd.R_reads' HO_1057001.out).2.1); (case q3 => exact (Kd.R_reads' HO_1057002.out).2.2); (case q4 => exact (Kd.R_reads' HO_1057002.out).2.1); (case q5 => exact (Kd.R_reads' HO_7.out).2.2); (case q6 => exact (Kd.R_reads' HO_7.out).2.1); rintro e w115 ⟨rfl, hb⟩; refine ⟨_, rfl, ?_⟩; replace HO_6 := Z.k (Kd.R_below HO_6.out hb); replace HO_7 := Z.k (Kd.R_below HO_7.out hb); replace HO_10 := Z.k (Kd.R_below HO_10.out hb); replace HO_1057001 := Z.k (Kd.R_below HO_1057001.out hb); replace HO_1057002 := Z.k (Kd.R_below HO_1057002.out hb); replace BK1056 := Z.bb BK1056 hb; replace HB := Z.st (Z.bs HB.out GE1056.out) hb; (try clear hb)) | ((with_reducible refine gate_callee (f := 28) rfl ?_); refine goesL_ (some 135) rfl rfl Try.func28 (by kernel_rfl) rfl #[.slice Ao93 t1063.length co93, .int .i64 t1074] rfl Z.ar ?_; (with_reducible refine (laws_hasInt.calls kj91 _ _ t1063 t1074 t1075 _ ?q1 ?q2 A102.out).mono ?_); (case q1 => exact (Kd.R_reads' HO_10.out).2.2); (case q2 => exact (Kd.R_reads' HO_10.out).2.1); rintro e w' ⟨rfl, ⟨nd, rfl⟩⟩; refine ⟨_, rfl, ?_⟩) | (go_at_call 34; (with_reducible refine (laws_sameInts.calls kj91 _ _ t1049 _ _ t1052 t1076 _ ?q1 ?q2 ?q3 ?q4 A104.out).mono ?_); (case q1 => exact (Kd.R_reads' HO_6.out).2.2); (case q2 => exact (Kd.R_reads' HO_6.out).2.1); (case q3 => exact (Kd.R_reads' HO_7.out).2.2); (case q4 => exact (Kd.R_reads' HO_7.out).2.1); rintro e w' ⟨rfl, ⟨nd, rfl⟩⟩))
                 go_ret
                 exact ⟨by rfl, Z.bs HB.out GE1056.out⟩
                ·rw [if_neg c111] at H
                 have c111b0 : decide (0 ≤ t1073) = false := decide_eq_false c111
                 clear c111
                 obtain rfl := Option.some.inj H
                 try go_wp2
                 replace HO_6 := Z.k (Kd.R_drew HO_6.out)
                 replace HO_7 := Z.k (Kd.R_drew HO_7.out)
                 replace HO_10 := Z.k (Kd.R_drew HO_10.out)
                 replace HO_1057001 := Z.k (Kd.R_drew HO_1057001.out)
                 replace HO_1057002 := Z.k (Kd.R_drew HO_1057002.out)
                 replace BK1056 := Z.k (blk_drew BK1056.out)
                 replace HB := Z.k (below_drew1 HB.out)
                 refine start_ (n := 9) (S := fun w' => w'.cell? ⟨gb1056, 0, none⟩ = some (.int .i64 t1042) ∧ w'.cell? ⟨gb1056, 1, none⟩ = some (.slice Ao14 t1043.length co14) ∧ w'.cell? ⟨gb1056, 2, none⟩ = some (.slice Ao15 t1046.length co15)) (ds := []) #[false, false, false, false, false, false, false, false, false] (by kernel_rfl) rfl rfl ⟨(blk_cell BK1056.out 0).trans rfl, (blk_cell BK1056.out 1).trans rfl, (blk_cell BK1056.out 2).trans rfl⟩ (fun hHeld => ?_); refine with_tabW laws_FnChangesTo.tab21 laws_FnChangesTo.bits21 (fun HT_ HW_ => ?_)
                 generalize wc.drew = w116 at HO_6 HO_7 HO_10 HO_1057001 HO_1057002 BK1056 HB hHeld ⊢
                 refine Z.pv 1 122 9 2 HT_.out ?_
                 refine Z.pv 2 123 9 6 HT_.out ?_
                 refine Z.pv 3 124 9 14 HT_.out ?_
                 refine Z.pv 4 125 9 30 HT_.out ?_
                 refine Z.pv 5 126 9 62 HT_.out ?_
                 refine Z.pv 6 127 9 126 HT_.out ?_
                 refine Z.t3 0 121 9 127 HT_.out HW_.out hHeld ?_
                 refine one_ (i := 7) (N := some 128) (Z.mb 9 255) rfl rfl (one_of HT_.out (by kernel_rfl)) (by decide) (fun K hK => ?_)
                 refine goes_ Try.func30 (by kernel_rfl) rfl #[.agg #[.int .i64 t1042, .slice Ao14 t1043.length co14, .slice Ao15 t1046.length co15], .slice Ao16 t1049.length co16, .slice Ao17 t1052.length co17, .int .i64 (Go.bits .or .i64 t1055 (ji99))] (by rfl) rfl rfl (by (try simp only [List.map_toArray, List.map_cons, List.map_nil]); rfl) ?_
                 with_reducible refine (impl_ChangesTo.calls kj91 t1042 _ _ t1043 _ _ t1046 _ _ t1049 _ _ t1052 (Go.bits .or .i64 t1055 (ji99)) t1073 _ ?q1 ?q2 ?q3 ?q4 ?q5 ?q6 ?q7 ?q8 A100.out).mono ?_
                 (case q1 => exact (Kd.R_reads' HO_1057001.out).2.2)
                 (case q2 => exact (Kd.R_reads' HO_1057001.out).2.1)
                 (case q3 => exact (Kd.R_reads' HO_1057002.out).2.2)
                 (case q4 => exact (Kd.R_reads' HO_1057002.out).2.1)
                 (case q5 => exact (Kd.R_reads' HO_6.out).2.2)
                 (case q6 => exact (Kd.R_reads' HO_6.out).2.1)
                 (case q7 => exact (Kd.R_reads' HO_7.out).2.2)
                 (case q8 => exact (Kd.R_reads' HO_7.out).2.1)
                 rintro e w117 ⟨rfl, hb⟩
                 refine ⟨_, rfl, ?_⟩
                 replace HO_6 := Z.k (Kd.R_below HO_6.out hb)
                 replace HO_7 := Z.k (Kd.R_below HO_7.out hb)
                 replace HO_10 := Z.k (Kd.R_below HO_10.out hb)
                 replace HO_1057001 := Z.k (Kd.R_below HO_1057001.out hb)
                 replace HO_1057002 := Z.k (Kd.R_below HO_1057002.out hb)
                 replace BK1056 := Z.bb BK1056 hb
                 replace HB := Z.st (Z.bs HB.out GE1056.out) hb
                 (try clear hb)
                 refine hK.out _ _ ⟨(blk_cell BK1056.out 0).trans rfl, (blk_cell BK1056.out 1).trans rfl, (blk_cell BK1056.out 2).trans rfl⟩ (fun hHeld => ?_)
                 clear hK K
                 refine Z.nm ?_
                 refine Z.pv 8 16 9 511 HT_.out ?_
                 refine done_ (done_of HT_.out (by kernel_rfl)) ?_
                 have hcz118 := Z.c3 BK1056.out
                 try go_wp2_with (first | ((with_reducible refine gate_callee (f := 29) rfl ?_); refine goesL_ (some 134) rfl rfl Try.func29 (by kernel_rfl) rfl #[.agg #[.int .i64 t1042, .slice Ao14 t1043.length co14, .slice Ao15 t1046.length co15], .slice Ao17 t1052.length co17] rfl Z.ar ?_; (with_reducible refine (impl_StateNumber.calls kj91 t1042 _ _ t1043 _ _ t1046 _ _ t1052 t1074 _ ?q1 ?q2 ?q3 ?q4 ?q5 ?q6 A101.out).mono ?_); (case q1 => exact (Kd.R_reads' HO_1057001.out).2.2); (case q2 => exact (Kd.R_reads' HO_1057001.out).2.1); (case q3 => exact (Kd.R_reads' HO_1057002.out).2.2); (case q4 => exact (Kd.R_reads' HO_1057002.out).2.1); (case q5 => exact (Kd.R_reads' HO_7.out).2.2); (case q6 => exact (Kd.R_reads' HO_7.out).2.1); rintro e w119 ⟨rfl, hb⟩; refine ⟨_, rfl, ?_⟩; replace HO_6 := Z.k (Kd.R_below HO_6.out hb); replace HO_7 := Z.k (Kd.R_below HO_7.out hb); replace HO_10 := Z.k (Kd.R_below HO_10.out hb); replace HO_1057001 := Z.k (Kd.R_below HO_1057001.out hb); replace HO_1057002 := Z.k (Kd.R_below HO_1057002.out hb); replace BK1056 := Z.bb BK1056 hb; replace HB := Z.st (Z.bs HB.out GE1056.out) hb; (try clear hb)) | ((with_reducible refine gate_callee (f := 28) rfl ?_); refine goesL_ (some 135) rfl rfl Try.func28 (by kernel_rfl) rfl #[.slice Ao93 t1063.length co93, .int .i64 t1074] rfl Z.ar ?_; (with_reducible refine (laws_hasInt.calls kj91 _ _ t1063 t1074 t1075 _ ?q1 ?q2 A102.out).mono ?_); (case q1 => exact (Kd.R_reads' HO_10.out).2.2); (case q2 => exact (Kd.R_reads' HO_10.out).2.1); rintro e w' ⟨rfl, ⟨nd, rfl⟩⟩; refine ⟨_, rfl, ?_⟩) | (go_at_call 34; (with_reducible refine (laws_sameInts.calls kj91 _ _ t1049 _ _ t1052 t1076 _ ?q1 ?q2 ?q3 ?q4 A104.out).mono ?_); (case q1 => exact (Kd.R_reads' HO_6.out).2.2); (case q2 => exact (Kd.R_reads' HO_6.out).2.1); (case q3 => exact (Kd.R_reads' HO_7.out).2.2); (case q4 => exact (Kd.R_reads' HO_7.out).2.1); rintro e w' ⟨rfl, ⟨nd, rfl⟩⟩))
                 go_ret
                 exact ⟨by rfl, Z.bs HB.out GE1056.out⟩
              ·rw [if_neg c105] at H
               have c105b0 : ((t1057 == 0) == t1076) = false := by simpa using c105
               (try (have c105b1 : decide ((t1057 == 0) = t1076) = false := by simpa using c105))
               (try (have c105b2 : ((t1057 == 0) == t1076) = false := by simpa using c105))
               (try (have c105b3 : ¬ ((t1057 == 0) = t1076) := by simpa using c105))
               clear c105
               obtain rfl := Option.some.inj H
               try go_wp2
               replace HO_6 := Z.k (Kd.R_drew HO_6.out)
               replace HO_7 := Z.k (Kd.R_drew HO_7.out)
               replace HO_10 := Z.k (Kd.R_drew HO_10.out)
               replace HO_1057001 := Z.k (Kd.R_drew HO_1057001.out)
               replace HO_1057002 := Z.k (Kd.R_drew HO_1057002.out)
               replace BK1056 := Z.k (blk_drew BK1056.out)
               replace HB := Z.k (below_drew1 HB.out)
               refine start_ (n := 9) (S := fun w' => w'.cell? ⟨gb1056, 0, none⟩ = some (.int .i64 t1042) ∧ w'.cell? ⟨gb1056, 1, none⟩ = some (.slice Ao14 t1043.length co14) ∧ w'.cell? ⟨gb1056, 2, none⟩ = some (.slice Ao15 t1046.length co15)) (ds := []) #[false, false, false, false, false, false, false, false, false] (by kernel_rfl) rfl rfl ⟨(blk_cell BK1056.out 0).trans rfl, (blk_cell BK1056.out 1).trans rfl, (blk_cell BK1056.out 2).trans rfl⟩ (fun hHeld => ?_); refine with_tabW laws_FnChangesTo.tab21 laws_FnChangesTo.bits21 (fun HT_ HW_ => ?_)
               generalize wc.drew = w120 at HO_6 HO_7 HO_10 HO_1057001 HO_1057002 BK1056 HB hHeld ⊢
               refine Z.pv 1 122 9 2 HT_.out ?_
               refine Z.pv 2 123 9 6 HT_.out ?_
               refine Z.pv 3 124 9 14 HT_.out ?_
               refine Z.pv 4 125 9 30 HT_.out ?_
               refine Z.pv 5 126 9 62 HT_.out ?_
               refine Z.pv 6 127 9 126 HT_.out ?_
               refine Z.t3 0 121 9 127 HT_.out HW_.out hHeld ?_
               refine one_ (i := 7) (N := some 128) (Z.mb 9 255) rfl rfl (one_of HT_.out (by kernel_rfl)) (by decide) (fun K hK => ?_)
               refine goes_ Try.func30 (by kernel_rfl) rfl #[.agg #[.int .i64 t1042, .slice Ao14 t1043.length co14, .slice Ao15 t1046.length co15], .slice Ao16 t1049.length co16, .slice Ao17 t1052.length co17, .int .i64 (Go.bits .or .i64 t1055 (ji99))] (by rfl) rfl rfl (by (try simp only [List.map_toArray, List.map_cons, List.map_nil]); rfl) ?_
               with_reducible refine (impl_ChangesTo.calls kj91 t1042 _ _ t1043 _ _ t1046 _ _ t1049 _ _ t1052 (Go.bits .or .i64 t1055 (ji99)) t1073 _ ?q1 ?q2 ?q3 ?q4 ?q5 ?q6 ?q7 ?q8 A100.out).mono ?_
               (case q1 => exact (Kd.R_reads' HO_1057001.out).2.2)
               (case q2 => exact (Kd.R_reads' HO_1057001.out).2.1)
               (case q3 => exact (Kd.R_reads' HO_1057002.out).2.2)
               (case q4 => exact (Kd.R_reads' HO_1057002.out).2.1)
               (case q5 => exact (Kd.R_reads' HO_6.out).2.2)
               (case q6 => exact (Kd.R_reads' HO_6.out).2.1)
               (case q7 => exact (Kd.R_reads' HO_7.out).2.2)
               (case q8 => exact (Kd.R_reads' HO_7.out).2.1)
               rintro e w121 ⟨rfl, hb⟩
               refine ⟨_, rfl, ?_⟩
               replace HO_6 := Z.k (Kd.R_below HO_6.out hb)
               replace HO_7 := Z.k (Kd.R_below HO_7.out hb)
               replace HO_10 := Z.k (Kd.R_below HO_10.out hb)
               replace HO_1057001 := Z.k (Kd.R_below HO_1057001.out hb)
               replace HO_1057002 := Z.k (Kd.R_below HO_1057002.out hb)
               replace BK1056 := Z.bb BK1056 hb
               replace HB := Z.st (Z.bs HB.out GE1056.out) hb
               (try clear hb)
               refine hK.out _ _ ⟨(blk_cell BK1056.out 0).trans rfl, (blk_cell BK1056.out 1).trans rfl, (blk_cell BK1056.out 2).trans rfl⟩ (fun hHeld => ?_)
               clear hK K
               refine Z.nm ?_
               refine Z.pv 8 16 9 511 HT_.out ?_
               refine done_ (done_of HT_.out (by kernel_rfl)) ?_
               have hcz122 := Z.c3 BK1056.out
               try go_wp2_with (first | ((with_reducible refine gate_callee (f := 29) rfl ?_); refine goesL_ (some 134) rfl rfl Try.func29 (by kernel_rfl) rfl #[.agg #[.int .i64 t1042, .slice Ao14 t1043.length co14, .slice Ao15 t1046.length co15], .slice Ao17 t1052.length co17] rfl Z.ar ?_; (with_reducible refine (impl_StateNumber.calls kj91 t1042 _ _ t1043 _ _ t1046 _ _ t1052 t1074 _ ?q1 ?q2 ?q3 ?q4 ?q5 ?q6 A101.out).mono ?_); (case q1 => exact (Kd.R_reads' HO_1057001.out).2.2); (case q2 => exact (Kd.R_reads' HO_1057001.out).2.1); (case q3 => exact (Kd.R_reads' HO_1057002.out).2.2); (case q4 => exact (Kd.R_reads' HO_1057002.out).2.1); (case q5 => exact (Kd.R_reads' HO_7.out).2.2); (case q6 => exact (Kd.R_reads' HO_7.out).2.1); rintro e w123 ⟨rfl, hb⟩; refine ⟨_, rfl, ?_⟩; replace HO_6 := Z.k (Kd.R_below HO_6.out hb); replace HO_7 := Z.k (Kd.R_below HO_7.out hb); replace HO_10 := Z.k (Kd.R_below HO_10.out hb); replace HO_1057001 := Z.k (Kd.R_below HO_1057001.out hb); replace HO_1057002 := Z.k (Kd.R_below HO_1057002.out hb); replace BK1056 := Z.bb BK1056 hb; replace HB := Z.st (Z.bs HB.out GE1056.out) hb; (try clear hb)) | ((with_reducible refine gate_callee (f := 28) rfl ?_); refine goesL_ (some 135) rfl rfl Try.func28 (by kernel_rfl) rfl #[.slice Ao93 t1063.length co93, .int .i64 t1074] rfl Z.ar ?_; (with_reducible refine (laws_hasInt.calls kj91 _ _ t1063 t1074 t1075 _ ?q1 ?q2 A102.out).mono ?_); (case q1 => exact (Kd.R_reads' HO_10.out).2.2); (case q2 => exact (Kd.R_reads' HO_10.out).2.1); rintro e w' ⟨rfl, ⟨nd, rfl⟩⟩; refine ⟨_, rfl, ?_⟩) | (go_at_call 34; (with_reducible refine (laws_sameInts.calls kj91 _ _ t1049 _ _ t1052 t1076 _ ?q1 ?q2 ?q3 ?q4 A104.out).mono ?_); (case q1 => exact (Kd.R_reads' HO_6.out).2.2); (case q2 => exact (Kd.R_reads' HO_6.out).2.1); (case q3 => exact (Kd.R_reads' HO_7.out).2.2); (case q4 => exact (Kd.R_reads' HO_7.out).2.1); rintro e w' ⟨rfl, ⟨nd, rfl⟩⟩))
               go_ret
               exact ⟨by rfl, Z.bs HB.out GE1056.out⟩
             ·rw [if_neg c103] at H
              have c103b0 : ((decide (t1057 ≥ 0)) == t1075) = false := by simpa using c103
              (try (have c103b1 : decide ((decide (t1057 ≥ 0)) = t1075) = false := by simpa using c103))
              (try (have c103b2 : ((decide (t1057 ≥ 0)) == t1075) = false := by simpa using c103))
              (try (have c103b3 : ¬ ((decide (t1057 ≥ 0)) = t1075) := by simpa using c103))
              clear c103
              obtain rfl := Option.some.inj H
              try go_wp2
              replace HO_6 := Z.k (Kd.R_drew HO_6.out)
              replace HO_7 := Z.k (Kd.R_drew HO_7.out)
              replace HO_10 := Z.k (Kd.R_drew HO_10.out)
              replace HO_1057001 := Z.k (Kd.R_drew HO_1057001.out)
              replace HO_1057002 := Z.k (Kd.R_drew HO_1057002.out)
              replace BK1056 := Z.k (blk_drew BK1056.out)
              replace HB := Z.k (below_drew1 HB.out)
              refine start_ (n := 9) (S := fun w' => w'.cell? ⟨gb1056, 0, none⟩ = some (.int .i64 t1042) ∧ w'.cell? ⟨gb1056, 1, none⟩ = some (.slice Ao14 t1043.length co14) ∧ w'.cell? ⟨gb1056, 2, none⟩ = some (.slice Ao15 t1046.length co15)) (ds := []) #[false, false, false, false, false, false, false, false, false] (by kernel_rfl) rfl rfl ⟨(blk_cell BK1056.out 0).trans rfl, (blk_cell BK1056.out 1).trans rfl, (blk_cell BK1056.out 2).trans rfl⟩ (fun hHeld => ?_); refine with_tabW laws_FnChangesTo.tab21 laws_FnChangesTo.bits21 (fun HT_ HW_ => ?_)
              generalize wc.drew = w124 at HO_6 HO_7 HO_10 HO_1057001 HO_1057002 BK1056 HB hHeld ⊢
              refine Z.pv 1 122 9 2 HT_.out ?_
              refine Z.pv 2 123 9 6 HT_.out ?_
              refine Z.pv 3 124 9 14 HT_.out ?_
              refine Z.pv 4 125 9 30 HT_.out ?_
              refine Z.pv 5 126 9 62 HT_.out ?_
              refine Z.pv 6 127 9 126 HT_.out ?_
              refine Z.t3 0 121 9 127 HT_.out HW_.out hHeld ?_
              refine one_ (i := 7) (N := some 128) (Z.mb 9 255) rfl rfl (one_of HT_.out (by kernel_rfl)) (by decide) (fun K hK => ?_)
              refine goes_ Try.func30 (by kernel_rfl) rfl #[.agg #[.int .i64 t1042, .slice Ao14 t1043.length co14, .slice Ao15 t1046.length co15], .slice Ao16 t1049.length co16, .slice Ao17 t1052.length co17, .int .i64 (Go.bits .or .i64 t1055 (ji99))] (by rfl) rfl rfl (by (try simp only [List.map_toArray, List.map_cons, List.map_nil]); rfl) ?_
              with_reducible refine (impl_ChangesTo.calls kj91 t1042 _ _ t1043 _ _ t1046 _ _ t1049 _ _ t1052 (Go.bits .or .i64 t1055 (ji99)) t1073 _ ?q1 ?q2 ?q3 ?q4 ?q5 ?q6 ?q7 ?q8 A100.out).mono ?_
              (case q1 => exact (Kd.R_reads' HO_1057001.out).2.2)
              (case q2 => exact (Kd.R_reads' HO_1057001.out).2.1)
              (case q3 => exact (Kd.R_reads' HO_1057002.out).2.2)
              (case q4 => exact (Kd.R_reads' HO_1057002.out).2.1)
              (case q5 => exact (Kd.R_reads' HO_6.out).2.2)
              (case q6 => exact (Kd.R_reads' HO_6.out).2.1)
              (case q7 => exact (Kd.R_reads' HO_7.out).2.2)
              (case q8 => exact (Kd.R_reads' HO_7.out).2.1)
              rintro e w125 ⟨rfl, hb⟩
              refine ⟨_, rfl, ?_⟩
              replace HO_6 := Z.k (Kd.R_below HO_6.out hb)
              replace HO_7 := Z.k (Kd.R_below HO_7.out hb)
              replace HO_10 := Z.k (Kd.R_below HO_10.out hb)
              replace HO_1057001 := Z.k (Kd.R_below HO_1057001.out hb)
              replace HO_1057002 := Z.k (Kd.R_below HO_1057002.out hb)
              replace BK1056 := Z.bb BK1056 hb
              replace HB := Z.st (Z.bs HB.out GE1056.out) hb
              (try clear hb)
              refine hK.out _ _ ⟨(blk_cell BK1056.out 0).trans rfl, (blk_cell BK1056.out 1).trans rfl, (blk_cell BK1056.out 2).trans rfl⟩ (fun hHeld => ?_)
              clear hK K
              refine Z.nm ?_
              refine Z.pv 8 16 9 511 HT_.out ?_
              refine done_ (done_of HT_.out (by kernel_rfl)) ?_
              have hcz126 := Z.c3 BK1056.out
              try go_wp2_with (first | ((with_reducible refine gate_callee (f := 29) rfl ?_); refine goesL_ (some 134) rfl rfl Try.func29 (by kernel_rfl) rfl #[.agg #[.int .i64 t1042, .slice Ao14 t1043.length co14, .slice Ao15 t1046.length co15], .slice Ao17 t1052.length co17] rfl Z.ar ?_; (with_reducible refine (impl_StateNumber.calls kj91 t1042 _ _ t1043 _ _ t1046 _ _ t1052 t1074 _ ?q1 ?q2 ?q3 ?q4 ?q5 ?q6 A101.out).mono ?_); (case q1 => exact (Kd.R_reads' HO_1057001.out).2.2); (case q2 => exact (Kd.R_reads' HO_1057001.out).2.1); (case q3 => exact (Kd.R_reads' HO_1057002.out).2.2); (case q4 => exact (Kd.R_reads' HO_1057002.out).2.1); (case q5 => exact (Kd.R_reads' HO_7.out).2.2); (case q6 => exact (Kd.R_reads' HO_7.out).2.1); rintro e w127 ⟨rfl, hb⟩; refine ⟨_, rfl, ?_⟩; replace HO_6 := Z.k (Kd.R_below HO_6.out hb); replace HO_7 := Z.k (Kd.R_below HO_7.out hb); replace HO_10 := Z.k (Kd.R_below HO_10.out hb); replace HO_1057001 := Z.k (Kd.R_below HO_1057001.out hb); replace HO_1057002 := Z.k (Kd.R_below HO_1057002.out hb); replace BK1056 := Z.bb BK1056 hb; replace HB := Z.st (Z.bs HB.out GE1056.out) hb; (try clear hb)) | ((with_reducible refine gate_callee (f := 28) rfl ?_); refine goesL_ (some 135) rfl rfl Try.func28 (by kernel_rfl) rfl #[.slice Ao93 t1063.length co93, .int .i64 t1074] rfl Z.ar ?_; (with_reducible refine (laws_hasInt.calls kj91 _ _ t1063 t1074 t1075 _ ?q1 ?q2 A102.out).mono ?_); (case q1 => exact (Kd.R_reads' HO_10.out).2.2); (case q2 => exact (Kd.R_reads' HO_10.out).2.1); rintro e w' ⟨rfl, ⟨nd, rfl⟩⟩; refine ⟨_, rfl, ?_⟩))
              go_ret
              exact ⟨by rfl, Z.bs HB.out GE1056.out⟩
    ·rw [if_neg c9] at H
     have c9b0 : (t1057 == t1058) = false := beq_eq_false_iff_ne.mpr c9
     have c9b1 : (t1057 != t1058) = true := bne_iff_ne.mpr c9
     obtain rfl := Option.some.inj H
     go_wp2_with (first | ((with_reducible refine gate_callee (f := 40) rfl ?_); refine goesL_ (some 27) rfl rfl Try.func40 (by kernel_rfl) rfl #[.slice A0 l0.length c0] rfl Z.ar ?_; (with_reducible refine (spec_DrawChangesTo.calls kj2 _ _ l0 t1042 t1043 t1046 t1049 t1052 t1055 _ ?q1 ?q2 A6.out).mono ?_); (case q1 => exact Z.cc HR0 HB); (case q2 => exact HC0.out); rintro e w128 ⟨v1044, v1047, v1050, v1053, rfl, ho0, ho1, ho2, ho3, hb⟩; refine ⟨_, rfl, ?_⟩; have HO1045 := Z.k (Kd.R_lower ho0 (below_size (Z.bl HB.out))); have HO1048 := Z.k (Kd.R_lower ho1 (below_size (Z.bl HB.out))); have HO1051 := Z.k (Kd.R_lower ho2 (below_size (Z.bl HB.out))); have HO1054 := Z.k (Kd.R_lower ho3 (below_size (Z.bl HB.out))); replace HB := Z.st (Z.bl HB.out) hb; (try clear hb ho0 ho1); (try clear ho2); (try clear ho3)) | ((with_reducible refine gate_dst (N := 5) rfl ?_); (try (refine gate_guard (by rfl) ?_; dsimp only)); refine Z.bx #[.int .i64 0, .slice none 0 0, .slice none 0 0] 28 HB ?_; clear HB; intro gb1056 w129 BK1056 GE1056 HB hg hb; have GW1056 := GE1056; replace HO1045 := Z.k (Kd.R_below HO1045.out hb); replace HO1048 := Z.k (Kd.R_below HO1048.out hb); replace HO1051 := Z.k (Kd.R_below HO1051.out hb); replace HO1054 := Z.k (Kd.R_below HO1054.out hb); clear hb hg; have hcz130 := Z.c3 BK1056.out; obtain ⟨Ao131, co131, eo131⟩ := Kd.R_slice HO1045.out; subst eo131; obtain ⟨Ao132, co132, eo132⟩ := Kd.R_slice HO1048.out; subst eo132; obtain ⟨Ao133, co133, eo133⟩ := Kd.R_slice HO1051.out; subst eo133; obtain ⟨Ao134, co134, eo134⟩ := Kd.R_slice HO1054.out; subst eo134) | ((with_reducible refine gate_callee (f := 30) rfl ?_); refine goesL_ (some 36) rfl rfl Try.func30 (by kernel_rfl) rfl #[.agg #[.int .i64 t1042, .slice Ao131 t1043.length co131, .slice Ao132 t1046.length co132], .slice Ao133 t1049.length co133, .slice Ao134 t1052.length co134, .int .i64 t1055] rfl Z.ar ?_; (with_reducible refine (impl_ChangesTo.calls kj2 t1042 _ _ t1043 _ _ t1046 _ _ t1049 _ _ t1052 t1055 t1057 _ ?q1 ?q2 ?q3 ?q4 ?q5 ?q6 ?q7 ?q8 A7.out).mono ?_); (case q1 => refine (Kd.R_reads' (e := 3) (base := w.heap.size) (ok := fun k_ => (some k_ ≠ (.slice Ao133 t1049.length co133 : Value).ownBlock ∧ some k_ ≠ (.slice Ao134 t1052.length co134 : Value).ownBlock)) (n := t1043.length) (c := co131) ?_).2.2; exact (Kd.R_mono (Kd.R_far (p := ⟨gb1056, 2, none⟩) (Kd.R_far (p := ⟨gb1056, 1, none⟩) (Kd.R_far (p := ⟨gb1056, 0, none⟩) (Kd.R_types HO1045.out BK1056.out (by decide)) (fun _ hk => hk.2) (.int .i64 t1042)) (fun _ hk => hk.2) (.slice Ao131 t1043.length co131)) (fun _ hk => hk.2) (.slice Ao132 t1046.length co132)) (fun _ h_ => h_.1))); (case q2 => exact (Kd.R_reads' HO1045.out).2.1); (case q3 => refine (Kd.R_reads' (e := 34) (base := w.heap.size) (ok := fun k_ => True) (n := t1046.length) (c := co132) ?_).2.2; exact (Kd.R_mono (Kd.R_far (p := ⟨gb1056, 2, none⟩) (Kd.R_far (p := ⟨gb1056, 1, none⟩) (Kd.R_far (p := ⟨gb1056, 0, none⟩) (Kd.R_types HO1048.out BK1056.out (by decide)) (fun _ hk => hk.2) (.int .i64 t1042)) (fun _ hk => hk.2) (.slice Ao131 t1043.length co131)) (fun _ hk => hk.2) (.slice Ao132 t1046.length co132)) (fun _ h_ => h_.1))); (case q4 => exact (Kd.R_reads' HO1048.out).2.1); (case q5 => refine (Kd.R_reads' (e := 3) (base := w.heap.size) (ok := fun k_ => (some k_ ≠ (.slice Ao131 t1043.length co131 : Value).ownBlock ∧ some k_ ≠ (.slice Ao134 t1052.length co134 : Value).ownBlock)) (n := t1049.length) (c := co133) ?_).2.2; exact (Kd.R_mono (Kd.R_far (p := ⟨gb1056, 2, none⟩) (Kd.R_far (p := ⟨gb1056, 1, none⟩) (Kd.R_far (p := ⟨gb1056, 0, none⟩) (Kd.R_types HO1051.out BK1056.out (by decide)) (fun _ hk => hk.2) (.int .i64 t1042)) (fun _ hk => hk.2) (.slice Ao131 t1043.length co131)) (fun _ hk => hk.2) (.slice Ao132 t1046.length co132)) (fun _ h_ => h_.1))); (case q6 => exact (Kd.R_reads' HO1051.out).2.1); (case q7 => refine (Kd.R_reads' (e := 3) (base := w.heap.size) (ok := fun k_ => (some k_ ≠ (.slice Ao131 t1043.length co131 : Value).ownBlock ∧ some k_ ≠ (.slice Ao133 t1049.length co133 : Value).ownBlock)) (n := t1052.length) (c := co134) ?_).2.2; exact (Kd.R_mono (Kd.R_far (p := ⟨gb1056, 2, none⟩) (Kd.R_far (p := ⟨gb1056, 1, none⟩) (Kd.R_far (p := ⟨gb1056, 0, none⟩) (Kd.R_types HO1054.out BK1056.out (by decide)) (fun _ hk => hk.2) (.int .i64 t1042)) (fun _ hk => hk.2) (.slice Ao131 t1043.length co131)) (fun _ hk => hk.2) (.slice Ao132 t1046.length co132)) (fun _ h_ => h_.1))); (case q8 => exact (Kd.R_reads' HO1054.out).2.1); rintro e w135 ⟨rfl, hb⟩; refine ⟨_, rfl, ?_⟩; replace HO1045 := Z.k (Kd.R_below (Kd.R_mono (Kd.R_far (p := ⟨gb1056, 2, none⟩) (Kd.R_far (p := ⟨gb1056, 1, none⟩) (Kd.R_far (p := ⟨gb1056, 0, none⟩) (Kd.R_types HO1045.out BK1056.out (by decide)) (fun _ hk => hk.2) (.int .i64 t1042)) (fun _ hk => hk.2) (.slice Ao131 t1043.length co131)) (fun _ hk => hk.2) (.slice Ao132 t1046.length co132)) (fun _ h_ => h_.1)) hb); replace HO1048 := Z.k (Kd.R_below (Kd.R_mono (Kd.R_far (p := ⟨gb1056, 2, none⟩) (Kd.R_far (p := ⟨gb1056, 1, none⟩) (Kd.R_far (p := ⟨gb1056, 0, none⟩) (Kd.R_types HO1048.out BK1056.out (by decide)) (fun _ hk => hk.2) (.int .i64 t1042)) (fun _ hk => hk.2) (.slice Ao131 t1043.length co131)) (fun _ hk => hk.2) (.slice Ao132 t1046.length co132)) (fun _ h_ => h_.1)) hb); replace HO1051 := Z.k (Kd.R_below (Kd.R_mono (Kd.R_far (p := ⟨gb1056, 2, none⟩) (Kd.R_far (p := ⟨gb1056, 1, none⟩) (Kd.R_far (p := ⟨gb1056, 0, none⟩) (Kd.R_types HO1051.out BK1056.out (by decide)) (fun _ hk => hk.2) (.int .i64 t1042)) (fun _ hk => hk.2) (.slice Ao131 t1043.length co131)) (fun _ hk => hk.2) (.slice Ao132 t1046.length co132)) (fun _ h_ => h_.1)) hb); replace HO1054 := Z.k (Kd.R_below (Kd.R_mono (Kd.R_far (p := ⟨gb1056, 2, none⟩) (Kd.R_far (p := ⟨gb1056, 1, none⟩) (Kd.R_far (p := ⟨gb1056, 0, none⟩) (Kd.R_types HO1054.out BK1056.out (by decide)) (fun _ hk => hk.2) (.int .i64 t1042)) (fun _ hk => hk.2) (.slice Ao131 t1043.length co131)) (fun _ hk => hk.2) (.slice Ao132 t1046.length co132)) (fun _ h_ => h_.1)) hb); replace BK1056 := Z.k (blk_below (g := gb1056) (o := .cells #[.int .i64 t1042, .slice Ao131 t1043.length co131, .slice Ao132 t1046.length co132] 28 (0, 0)) (by refine blk_put (cs := #[.int .i64 t1042, .slice Ao131 t1043.length co131, .slice none 0 0]) ?_ 2 _ rfl; refine blk_put (cs := #[.int .i64 t1042, .slice none 0 0, .slice none 0 0]) ?_ 1 _ rfl; refine blk_put (cs := #[.int .i64 0, .slice none 0 0, .slice none 0 0]) ?_ 0 _ rfl; exact BK1056.out) hb); replace HB := Z.st (Z.bs HB.out GE1056.out) hb; (try clear hb); have hcz136 := Z.c3 BK1056.out) | ((with_reducible refine gate_callee (f := 41) rfl ?_); refine goesL_ (some 42) rfl rfl Try.func41 (by kernel_rfl) rfl #[.agg #[.int .i64 t1042, .slice Ao131 t1043.length co131, .slice Ao132 t1046.length co132], .slice Ao133 t1049.length co133, .slice Ao134 t1052.length co134, .int .i64 t1055] rfl Z.ar ?_; (with_reducible refine (spec_ChangesTo.calls kj2 t1042 _ _ t1043 _ _ t1046 _ _ t1049 _ _ t1052 t1055 t1058 _ ?q1 ?q2 ?q3 ?q4 ?q5 ?q6 ?q7 ?q8 A8.out).mono ?_); (case q1 => exact (Kd.R_reads' HO1045.out).2.2); (case q2 => exact (Kd.R_reads' HO1045.out).2.1); (case q3 => exact (Kd.R_reads' HO1048.out).2.2); (case q4 => exact (Kd.R_reads' HO1048.out).2.1); (case q5 => exact (Kd.R_reads' HO1051.out).2.2); (case q6 => exact (Kd.R_reads' HO1051.out).2.1); (case q7 => exact (Kd.R_reads' HO1054.out).2.2); (case q8 => exact (Kd.R_reads' HO1054.out).2.1); rintro e w137 ⟨rfl, hb⟩; refine ⟨_, rfl, ?_⟩; replace HO1045 := Z.k (Kd.R_below HO1045.out hb); replace HO1048 := Z.k (Kd.R_below HO1048.out hb); replace HO1051 := Z.k (Kd.R_below HO1051.out hb); replace HO1054 := Z.k (Kd.R_below HO1054.out hb); replace BK1056 := Z.bb BK1056 hb; replace HB := Z.st (Z.bs HB.out GE1056.out) hb; (try clear hb)))
     go_ret
     exact ⟨by rfl, Z.bs HB.out GE1056.out⟩

/-- THE ONE PURE STATEMENT of laws_FnChangesTo: yours. -/
def laws_FnChangesTo.Pure : Prop := ∀ (l0 : List Int) (l1 : List Int), l0.length ≤ maxLen → l0.length * 1 ≤ 140737488351232 → (∀ x ∈ l0, (Lit.int .u8 x).wf = true) → l1.length ≤ maxLen → l1.length * 1 ≤ 140737488351232 → (∀ x ∈ l1, (Lit.int .u8 x).wf = true) → ∃ k, laws_FnChangesTo.f k l0 l1 = some true
theorem laws_FnChangesTo.walk (P : laws_FnChangesTo.Pure) (a0 : Option Addr) (len0 cap0 : Nat) (z0 : List Int) (a1 : Option Addr) (len1 cap1 : Nat) (z1 : List Int) (w : World) (w0 : (a0 = none ∧ len0 = 0 ∧ cap0 = 0 ∧ z0 = []) ∨ ∃ x, a0 = some x ∧ len0 ≤ cap0 ∧ cap0 ≤ maxLen ∧ z0.length = cap0 ∧ (∀ i, i < z0.length → w.cell? (x.add i) = some (.int .u8 (z0.getD i 0))) ∧ ∀ n ∈ z0, (Lit.int .u8 n).wf = true) (y0 : len0 * 1 ≤ 140737488351232) (w1 : (a1 = none ∧ len1 = 0 ∧ cap1 = 0 ∧ z1 = []) ∨ ∃ x, a1 = some x ∧ len1 ≤ cap1 ∧ cap1 ≤ maxLen ∧ z1.length = cap1 ∧ (∀ i, i < z1.length → w.cell? (x.add i) = some (.int .u8 (z1.getD i 0))) ∧ ∀ n ∈ z1, (Lit.int .u8 n).wf = true) (y1 : len1 * 1 ≤ 140737488351232) :
  Calls Try.prog 8 #[.slice a0 len0 cap0, .slice a1 len1 cap1] w fun e w' => e = .returned (.bool true) ∧ Below w.heap.size w w' := by
 obtain ⟨l0, rfl, hr0, hm0, hw0, hc0⟩ := ReadsInt.ofRowC w0
 obtain ⟨l1, rfl, hr1, hm1, hw1, hc1⟩ := ReadsInt.ofRowC w1
 obtain ⟨k, h⟩ := P l0 l1 hm0 y0 hw0 hm1 y1 hw1
 refine (laws_FnChangesTo.calls k _ _ l0 _ _ l1 true w (Kd.C_of_reads (d := (0 : Int)) (h1 := fun _ => rfl) hr0) hc0 (Kd.C_of_reads (d := (0 : Int)) (h1 := fun _ => rfl) hr1) hc1 h).mono ?_
 rintro e w' ⟨rfl, hd⟩
 exact ⟨rfl, hd⟩

end Go.Proofs.Ytkogboechfieeaa.PAll

/- Walks of functions that All reaches, in the form of the print. -/
-- PRINTED
import Derived.Test.YtcafckapdgaogaaCAll0
import Derived.Test.YtcafckapdgaogaaCAll2
import Derived.Test.YtcafckapdgaogaaCAll10
import Derived.Test.YtcafckapdgaogaaCAll17
import Derived.Test.YtcafckapdgaogaaCAll19
import Derived.Test.YtcafckapdgaogaaCAll27
import Derived.Test.YtcafckapdgaogaaZ
namespace Go.Proofs.Ytcafckapdgaogaa.PAll
open Go.RowKit Go.Proofs.YtcafckapdgaogaaW.PrintWords Go.Proofs.YtcafckapdgaogaaW.PrintLast Go.Proofs.YtcafckapdgaogaaW.PrintMore
attribute [local go_sem] max2_int min2_int max_two min_two max_three min_three max_four min_four
set_option linter.unusedVariables false
set_option linter.unusedSimpArgs false

/-! ### laws_FnExactEitherOrder: function 7 -/
mutual
def laws_FnExactEitherOrder.j0 : Nat → List Int → Int → List Int → List (List (S128)) → Int → Int → Int → Int → Int → Int → Option (Bool)
 | 0, _, _, _, _, _, _, _, _, _, _ => none
 | k + 1, x1, x729000, x729001, x729002, x730000, x730001, x730002, x731000, x731001, x731002 => (laws_szCharter.f k x729000 x729001 x729002 1048576).bind fun t731 => (if t731 < 0 then (some true) else (laws_FnExactEitherOrder.j1 k x1 x729000 x729001 x729002 x730000 x730001 x730002 x731000 x731001 x731002))
def laws_FnExactEitherOrder.j1 : Nat → List Int → Int → List Int → List (List (S128)) → Int → Int → Int → Int → Int → Int → Option (Bool)
 | 0, _, _, _, _, _, _, _, _, _, _ => none
 | k + 1, x1, x729000, x729001, x729002, x730000, x730001, x730002, x731000, x731001, x731002 => (laws_toCharter.f k x729000 x729001 x729002).bind fun bt732 => ((laws_toIntS.f k x1).bind fun t739 => ((laws_toAct.f x730000 x730001 x730002).bind fun bt742 => ((laws_toAct.f x731000 x731001 x731002).bind fun bt745 => ((spec_EitherOrder.f k bt732.1 bt732.2.1 bt732.2.2 t739 bt742.1 bt742.2.1 bt742.2.2 bt745.1 bt745.2.1 bt745.2.2).bind fun t748 => ((laws_toCharter.f k x729000 x729001 x729002).bind fun bt749 => ((laws_toIntS.f k x1).bind fun t757 => ((laws_toAct.f x730000 x730001 x730002).bind fun bt760 => ((laws_toAct.f x731000 x731001 x731002).bind fun bt763 => ((impl_EitherOrder.f k bt749.1 bt749.2.1 bt749.2.2 t757 bt760.1 bt760.2.1 bt760.2.2 bt763.1 bt763.2.1 bt763.2.2).bind fun t766 => (if (t766 != t748) = true then (some false) else (laws_FnExactEitherOrder.j2 k x1 t757 x729000 x729001 x729002 bt749.1 bt749.2.1 bt749.2.2)))))))))))
def laws_FnExactEitherOrder.j2 : Nat → List Int → List Int → Int → List Int → List (List (S128)) → Int → List Int → List (List (S86)) → Option (Bool)
 | 0, _, _, _, _, _, _, _, _ => none
 | k + 1, x1, x12, x729000, x729001, x729002, x757000, x757001, x757002 => (laws_toCharter.f k x729000 x729001 x729002).bind fun bt767 => ((laws_eqCharter.f k x757000 x757001 x757002 bt767.1 bt767.2.1 bt767.2.2).bind fun t774 => (if t774 = true then (laws_FnExactEitherOrder.j3 k x1 x12) else (some false)))
def laws_FnExactEitherOrder.j3 : Nat → List Int → List Int → Option (Bool)
 | 0, _, _ => none
 | k + 1, x1, x12 => (laws_toIntS.f k x1).bind fun t775 => ((laws_eqIntS.f k x12 t775).bind fun t778 => (if t778 = true then (some true) else (some false)))
end
def laws_FnExactEitherOrder.f (k : Nat) (a0_0 : Int) (l0_1 : List Int) (l0_2 : List (List (S128))) (l1 : List Int) (a2_0 : Int) (a2_1 : Int) (a2_2 : Int) (a3_0 : Int) (a3_1 : Int) (a3_2 : Int) : Option (Bool) := if (l1.length : Int) > 1048576 then (some true) else (laws_FnExactEitherOrder.j0 k l1 a0_0 l0_1 l0_2 a2_0 a2_1 a2_2 a3_0 a3_1 a3_2)
theorem laws_FnExactEitherOrder.mono_l : ∀ k, (∀ y0 y1 y2 y3 y4 y5 y6 y7 y8 y9, LeO (laws_FnExactEitherOrder.j0 k y0 y1 y2 y3 y4 y5 y6 y7 y8 y9) (laws_FnExactEitherOrder.j0 (k + 1) y0 y1 y2 y3 y4 y5 y6 y7 y8 y9)) ∧ (∀ y0 y1 y2 y3 y4 y5 y6 y7 y8 y9, LeO (laws_FnExactEitherOrder.j1 k y0 y1 y2 y3 y4 y5 y6 y7 y8 y9) (laws_FnExactEitherOrder.j1 (k + 1) y0 y1 y2 y3 y4 y5 y6 y7 y8 y9)) ∧ (∀ y0 y1 y2 y3 y4 y5 y6 y7, LeO (laws_FnExactEitherOrder.j2 k y0 y1 y2 y3 y4 y5 y6 y7) (laws_FnExactEitherOrder.j2 (k + 1) y0 y1 y2 y3 y4 y5 y6 y7)) ∧ (∀ y0 y1, LeO (laws_FnExactEitherOrder.j3 k y0 y1) (laws_FnExactEitherOrder.j3 (k + 1) y0 y1))
 | 0 => ⟨fun _ _ _ _ _ _ _ _ _ _ r h => by simp [laws_FnExactEitherOrder.j0] at h, fun _ _ _ _ _ _ _ _ _ _ r h => by simp [laws_FnExactEitherOrder.j1] at h, fun _ _ _ _ _ _ _ _ r h => by simp [laws_FnExactEitherOrder.j2] at h, fun _ _ r h => by simp [laws_FnExactEitherOrder.j3] at h⟩
 | k + 1 => by
  obtain ⟨ih0, ih1, ih2, ih3⟩ := laws_FnExactEitherOrder.mono_l k
  refine ⟨?_, ?_, ?_, ?_⟩
  ·intro y0 y1 y2 y3 y4 y5 y6 y7 y8 y9
   unfold laws_FnExactEitherOrder.j0
   repeat' first
   | (with_reducible exact LeO.refl _)
   | exact ih0 _ _ _ _ _ _ _ _ _ _
   | exact ih1 _ _ _ _ _ _ _ _ _ _
   | exact ih2 _ _ _ _ _ _ _ _
   | exact ih3 _ _
   | exact impl_EitherOrder.mono _ _ _ _ _ _ _ _ _ _ _
   | exact laws_eqCharter.mono _ _ _ _ _ _ _
   | exact laws_eqIntS.mono _ _ _
   | exact laws_szCharter.mono _ _ _ _ _
   | exact laws_toCharter.mono _ _ _ _
   | exact laws_toIntS.mono _ _
   | exact spec_EitherOrder.mono _ _ _ _ _ _ _ _ _ _ _
   | exact LeO.none _
   | refine LeO.ite ?_ ?_
   | refine LeO.bind ?_ (fun _ => ?_)
  ·intro y0 y1 y2 y3 y4 y5 y6 y7 y8 y9
   unfold laws_FnExactEitherOrder.j1
   repeat' first
   | (with_reducible exact LeO.refl _)
   | exact ih0 _ _ _ _ _ _ _ _ _ _
   | exact ih1 _ _ _ _ _ _ _ _ _ _
   | exact ih2 _ _ _ _ _ _ _ _
   | exact ih3 _ _
   | exact impl_EitherOrder.mono _ _ _ _ _ _ _ _ _ _ _
   | exact laws_eqCharter.mono _ _ _ _ _ _ _
   | exact laws_eqIntS.mono _ _ _
   | exact laws_szCharter.mono _ _ _ _ _
   | exact laws_toCharter.mono _ _ _ _
   | exact laws_toIntS.mono _ _
   | exact spec_EitherOrder.mono _ _ _ _ _ _ _ _ _ _ _
   | exact LeO.none _
   | refine LeO.ite ?_ ?_
   | refine LeO.bind ?_ (fun _ => ?_)
  ·intro y0 y1 y2 y3 y4 y5 y6 y7
   unfold laws_FnExactEitherOrder.j2
   repeat' first
   | (with_reducible exact LeO.refl _)
   | exact ih0 _ _ _ _ _ _ _ _ _ _
   | exact ih1 _ _ _ _ _ _ _ _ _ _
   | exact ih2 _ _ _ _ _ _ _ _
   | exact ih3 _ _
   | exact impl_EitherOrder.mono _ _ _ _ _ _ _ _ _ _ _
   | exact laws_eqCharter.mono _ _ _ _ _ _ _
   | exact laws_eqIntS.mono _ _ _
   | exact laws_szCharter.mono _ _ _ _ _
   | exact laws_toCharter.mono _ _ _ _
   | exact laws_toIntS.mono _ _
   | exact spec_EitherOrder.mono _ _ _ _ _ _ _ _ _ _ _
   | exact LeO.none _
   | refine LeO.ite ?_ ?_
   | refine LeO.bind ?_ (fun _ => ?_)
  ·intro y0 y1
   unfold laws_FnExactEitherOrder.j3
   repeat' first
   | (with_reducible exact LeO.refl _)
   | exact ih0 _ _ _ _ _ _ _ _ _ _
   | exact ih1 _ _ _ _ _ _ _ _ _ _
   | exact ih2 _ _ _ _ _ _ _ _
   | exact ih3 _ _
   | exact impl_EitherOrder.mono _ _ _ _ _ _ _ _ _ _ _
   | exact laws_eqCharter.mono _ _ _ _ _ _ _
   | exact laws_eqIntS.mono _ _ _
   | exact laws_szCharter.mono _ _ _ _ _
   | exact laws_toCharter.mono _ _ _ _
   | exact laws_toIntS.mono _ _
   | exact spec_EitherOrder.mono _ _ _ _ _ _ _ _ _ _ _
   | exact LeO.none _
   | refine LeO.ite ?_ ?_
   | refine LeO.bind ?_ (fun _ => ?_)
theorem laws_FnExactEitherOrder.mono : ∀ a0 a1 a2 a3 a4 a5 a6 a7 a8 a9 k, LeO (laws_FnExactEitherOrder.f k a0 a1 a2 a3 a4 a5 a6 a7 a8 a9) (laws_FnExactEitherOrder.f (k + 1) a0 a1 a2 a3 a4 a5 a6 a7 a8 a9) := by
 intro a0 a1 a2 a3 a4 a5 a6 a7 a8 a9 k
 obtain ⟨ih0, ih1, ih2, ih3⟩ := laws_FnExactEitherOrder.mono_l k
 unfold laws_FnExactEitherOrder.f
 repeat' first
   | (with_reducible exact LeO.refl _)
   | exact ih0 _ _ _ _ _ _ _ _ _ _
   | exact ih1 _ _ _ _ _ _ _ _ _ _
   | exact ih2 _ _ _ _ _ _ _ _
   | exact ih3 _ _
   | exact impl_EitherOrder.mono _ _ _ _ _ _ _ _ _ _ _
   | exact laws_eqCharter.mono _ _ _ _ _ _ _
   | exact laws_eqIntS.mono _ _ _
   | exact laws_szCharter.mono _ _ _ _ _
   | exact laws_toCharter.mono _ _ _ _
   | exact laws_toIntS.mono _ _
   | exact spec_EitherOrder.mono _ _ _ _ _ _ _ _ _ _ _
   | exact LeO.none _
   | refine LeO.ite ?_ ?_
   | refine LeO.bind ?_ (fun _ => ?_)
def laws_FnExactEitherOrder.T7 : Bool × List (List Nat × List Nat) := (true, [([], []), ([0], [0]), ([], []), ([2, 1], [2]), ([], []), ([4, 3], [4]), ([], []), ([6, 5], [6]), ([1, 3, 5, 7, 7], [1, 3, 5, 7]), ([8, 8, 0, 1, 2, 3, 4, 5, 6, 7, 8], [8])])
def laws_FnExactEitherOrder.B7 : List Nat := [0, 1, 0, 7, 0, 31, 0, 127, 255, 511]
theorem laws_FnExactEitherOrder.tab7 : rtab .any (opsOf Try.f7 7) = laws_FnExactEitherOrder.T7 := by kernel_rfl
theorem laws_FnExactEitherOrder.bits7 : waitsOk laws_FnExactEitherOrder.T7.2 laws_FnExactEitherOrder.B7 = true := by kernel_rfl
def laws_FnExactEitherOrder.T10 : Bool × List (List Nat × List Nat) := (true, [([], []), ([], []), ([], []), ([2], [2]), ([], []), ([4, 3], [4]), ([0, 1, 3, 5, 5], [0, 1, 3, 5]), ([6, 6, 0, 1, 2, 3, 4, 5, 6], [6])])
def laws_FnExactEitherOrder.B10 : List Nat := [0, 0, 0, 4, 0, 28, 63, 127]
theorem laws_FnExactEitherOrder.tab10 : rtab .any (opsOf Try.f7 10) = laws_FnExactEitherOrder.T10 := by kernel_rfl
theorem laws_FnExactEitherOrder.bits10 : waitsOk laws_FnExactEitherOrder.T10.2 laws_FnExactEitherOrder.B10 = true := by kernel_rfl
set_option maxHeartbeats 8000000 in
set_option maxRecDepth 100000 in
theorem laws_FnExactEitherOrder.calls (k : Nat) (a0_0 : Int) (A0_1 : Option Addr) (c0_1 : Nat) (l0_1 : List Int) (A0_2 : Option Addr) (c0_2 : Nat) (l0_2 : List (List (S128))) (A1 : Option Addr) (c1 : Nat) (l1 : List Int) (a2_0 : Int) (a2_1 : Int) (a2_2 : Int) (a3_0 : Int) (a3_1 : Int) (a3_2 : Int) (r : Bool) (w : World) (hr0_1 : Kd.C (Kd.int .i64) w A0_1 l0_1.length l0_1) (hc0_1 : l0_1.length ≤ c0_1) (hr0_2 : Kd.C (Kd.slice 128 k128) w A0_2 l0_2.length l0_2) (hc0_2 : l0_2.length ≤ c0_2) (hr1 : Kd.C (Kd.int .i64) w A1 l1.length l1) (hc1 : l1.length ≤ c1) (h : laws_FnExactEitherOrder.f k a0_0 l0_1 l0_2 l1 a2_0 a2_1 a2_2 a3_0 a3_1 a3_2 = some r) :
  Calls Try.prog 7 #[.agg #[.int .i64 a0_0, .slice A0_1 l0_1.length c0_1, .slice A0_2 l0_2.length c0_2], .slice A1 l1.length c1, .agg #[.int .i64 a2_0, .int .i64 a2_1, .int .i64 a2_2], .agg #[.int .i64 a3_0, .int .i64 a3_1, .int .i64 a3_2]] w fun e w' => e = .returned (.bool r) ∧ Below w.heap.size w w' := by
 have hu27 := Try.underlying27
 have hu51 := Try.underlying51
 have hu35 := Try.underlying35
 have HR0_1 := Aside0.mk hr0_1
 have HC0_1 := Aside0.mk hc0_1
 clear hr0_1 hc0_1
 have HR0_2 := Aside0.mk hr0_2
 have HC0_2 := Aside0.mk hc0_2
 clear hr0_2 hc0_2
 have HR1 := Aside0.mk hr1
 have HC1 := Aside0.mk hc1
 clear hr1 hc1
 have HB := Aside0.mk (Below.refl w.heap.size w)
 have H := h
 clear h
 unfold laws_FnExactEitherOrder.f at H
 have HC5 := Aside0.mk H
 clear H
 go_enter Try.func7, Try.ntmps7
 go_upto_if 16 with (first | ((with_reducible refine gate_dst (N := 4) rfl ?_); refine Z.bx #[.int .i64 a0_0, .slice A0_1 l0_1.length c0_1, .slice A0_2 l0_2.length c0_2] 27 HB ?_; clear HB; intro gb728 w6 BK728 GE728 HB hg hb; have GW728 := GE728; clear hb hg) | ((with_reducible refine gate_dst (N := 6) rfl ?_); refine Z.bz #[.int .i64 a2_0, .int .i64 a2_1, .int .i64 a2_2] 51 HB GE728 ?_; clear HB; intro gb729 w7 BK729 GE729 HB hg hb; have GW729 := GE729; have NB728_729 := Z.nl hg BK728; have NB729_728 := Z.ng hg BK728; replace BK728 := Z.bb BK728 hb; clear hb hg) | ((with_reducible refine gate_dst (N := 7) rfl ?_); refine box_event ?hg (N := 7) ?hd (cs := #[.int .i64 a3_0, .int .i64 a3_1, .int .i64 a3_2]) (t := 51) ?hr ?_; (case hd | hg => rfl); (case hr => (go_simp; done)); intro gb730 hg w8 hbox hb; have BK730 := Aside0.mk (hbox); have GW730 := Aside0.mk ((by rw [hg]; exact (below_size (by repeat ((with_reducible exact HB.out)))) : w.heap.size ≤ gb730)); have GE730 := Aside0.mk ((by rw [hg]; exact (below_size (by repeat ((with_reducible exact HB.out)))) : w.heap.size ≤ gb730)); replace HB := Aside0.mk (below_step (by repeat ((with_reducible exact HB.out))) hb); have NB728_730 := Z.nl hg BK728; have NB730_728 := Z.ng hg BK728; replace BK728 := Z.bb BK728 hb; have NB729_730 := Z.nl hg BK729; have NB730_729 := Z.ng hg BK729; replace BK729 := Z.bb BK729 hb; clear hb hbox hg))
 go_cut [] (fun wc => ∃ (kq : Nat), Aside0 (laws_FnExactEitherOrder.j0 kq l1 a0_0 l0_1 l0_2 a2_0 a2_1 a2_2 a3_0 a3_1 a3_2 = some r) ∧ Aside0 (kq ≤ k) ∧ Aside0 (wc.heap[gb728]? = some (.cells #[.int .i64 a0_0, (.slice A0_1 l0_1.length c0_1), (.slice A0_2 l0_2.length c0_2)] 27 (0, 0))) ∧ Aside0 (wc.heap[gb729]? = some (.cells #[.int .i64 a2_0, .int .i64 a2_1, .int .i64 a2_2] 51 (0, 0))) ∧ Aside0 (wc.heap[gb730]? = some (.cells #[.int .i64 a3_0, .int .i64 a3_1, .int .i64 a3_2] 51 (0, 0))) ∧ Aside0 (Below w.heap.size w wc))
 case first =>
  have H := HC5.out
  clear HC5
  by_cases c9 : (l1.length : Int) > 1048576
  ·rw [if_pos c9] at H
   have c9b0 : decide (1048576 < (l1.length : Int)) = true := decide_eq_true c9
   have c9b1 : decide (1048576 < l1.length) = true := decide_eq_true (by omega)
   clear c9
   (rw [c9b0])
   obtain rfl := Option.some.inj H
   go_wp2
   go_ret
   exact ⟨by rfl, by repeat ((with_reducible exact HB.out))⟩
  ·rw [if_neg c9] at H
   have c9b0 : decide (1048576 < (l1.length : Int)) = false := decide_eq_false c9
   have c9b1 : decide (1048576 < l1.length) = false := decide_eq_false (by omega)
   clear c9
   (rw [c9b0])
   have H' := Aside0.mk H
   clear H
   go_wp2
   go_meet
   case rel => exact ⟨_, H', ⟨by omega⟩, ⟨by (with_reducible skip); exact BK728.out⟩, ⟨by (with_reducible skip); exact BK729.out⟩, ⟨by (with_reducible skip); exact BK730.out⟩, ⟨by repeat ((with_reducible exact HB.out))⟩⟩
 case rest =>
  clear HC5
  obtain ⟨kq, HA, HJ4, BK728, BK729, BK730, HB⟩ := hcut
  cases kq with
  | zero => exact absurd HA.out (by simp [laws_FnExactEitherOrder.j0])
  | succ kj4 =>
   have H := HA.out
   clear HA
   simp only [laws_FnExactEitherOrder.j0] at H
   replace H := Option.bind_eq_some_iff.mp H
   obtain ⟨t731, A100, H⟩ := H
   have A10 := Aside0.mk A100
   clear A100
   have HC11 := Aside0.mk H
   clear H
   have hnb12 := NB728_729.out
   have hnc12 := NB729_728.out
   have hnb13 := NB728_730.out
   have hnc13 := NB730_728.out
   have hcz14 := Z.c3 BK728.out
   go_upto_if 21 with (((with_reducible refine gate_callee (f := 17) rfl ?_); refine goesL_ (some 19) rfl rfl Try.func17 (by kernel_rfl) rfl #[.agg #[.int .i64 a0_0, .slice A0_1 l0_1.length c0_1, .slice A0_2 l0_2.length c0_2], .int .i64 1048576] rfl Z.ar ?_; (with_reducible refine (laws_szCharter.calls kj4 a0_0 _ _ l0_1 _ _ l0_2 1048576 t731 _ ?q1 ?q2 ?q3 ?q4 A10.out).mono ?_); (case q1 => exact Z.cc HR0_1 HB); (case q2 => exact HC0_1.out); (case q3 => exact Z.cc HR0_2 HB); (case q4 => exact HC0_2.out); rintro e w15 ⟨rfl, hb⟩; refine ⟨_, rfl, ?_⟩; replace BK728 := Z.bb BK728 hb; replace BK729 := Z.bb BK729 hb; replace BK730 := Z.bb BK730 hb; replace HB := Aside0.mk (below_step (by repeat ((with_reducible exact HB.out))) hb); (try clear hb)))
   go_cut [] (fun wc => ∃ (kq : Nat), Aside0 (laws_FnExactEitherOrder.j1 kq l1 a0_0 l0_1 l0_2 a2_0 a2_1 a2_2 a3_0 a3_1 a3_2 = some r) ∧ Aside0 (kq ≤ kj4) ∧ Aside0 (wc.heap[gb728]? = some (.cells #[.int .i64 a0_0, (.slice A0_1 l0_1.length c0_1), (.slice A0_2 l0_2.length c0_2)] 27 (0, 0))) ∧ Aside0 (wc.heap[gb729]? = some (.cells #[.int .i64 a2_0, .int .i64 a2_1, .int .i64 a2_2] 51 (0, 0))) ∧ Aside0 (wc.heap[gb730]? = some (.cells #[.int .i64 a3_0, .int .i64 a3_1, .int .i64 a3_2] 51 (0, 0))) ∧ Aside0 (Below w.heap.size w wc))
   case first =>
    have H := HC11.out
    clear HC11
    by_cases c16 : t731 < 0
    ·rw [if_pos c16] at H
     have c16b0 := decide_eq_true c16
     clear c16
     (rw [c16b0])
     obtain rfl := Option.some.inj H
     go_wp2
     go_ret
     exact ⟨by rfl, by repeat ((with_reducible exact HB.out))⟩
    ·rw [if_neg c16] at H
     have c16b0 := decide_eq_false c16
     clear c16
     (rw [c16b0])
     have H' := Aside0.mk H
     clear H
     go_wp2
     go_meet
     case rel => exact ⟨_, H', ⟨by have := HJ4.out; omega⟩, ⟨by (with_reducible skip); exact BK728.out⟩, ⟨by (with_reducible skip); exact BK729.out⟩, ⟨by (with_reducible skip); exact BK730.out⟩, ⟨by repeat ((with_reducible exact HB.out))⟩⟩
   case rest =>
    clear HC11
    obtain ⟨kq, HA, HJ10, BK728, BK729, BK730, HB⟩ := hcut
    cases kq with
    | zero => exact absurd HA.out (by simp [laws_FnExactEitherOrder.j1])
    | succ kj10 =>
     have H := HA.out
     clear HA
     simp only [laws_FnExactEitherOrder.j1] at H
     replace H := Option.bind_eq_some_iff.mp H
     obtain ⟨⟨t732, t733, t736⟩, A170, H⟩ := H
     try dsimp only at H
     have A17 := Aside0.mk A170
     clear A170
     replace H := Option.bind_eq_some_iff.mp H
     obtain ⟨t739, A180, H⟩ := H
     have A18 := Aside0.mk A180
     clear A180
     replace H := Option.bind_eq_some_iff.mp H
     obtain ⟨⟨t742, t743, t744⟩, A190, H⟩ := H
     try dsimp only at H
     have A19 := Aside0.mk A190
     clear A190
     replace H := Option.bind_eq_some_iff.mp H
     obtain ⟨⟨t745, t746, t747⟩, A200, H⟩ := H
     try dsimp only at H
     have A20 := Aside0.mk A200
     clear A200
     replace H := Option.bind_eq_some_iff.mp H
     obtain ⟨t748, A210, H⟩ := H
     have A21 := Aside0.mk A210
     clear A210
     replace H := Option.bind_eq_some_iff.mp H
     obtain ⟨⟨t749, t750, t753⟩, A220, H⟩ := H
     try dsimp only at H
     have A22 := Aside0.mk A220
     clear A220
     replace H := Option.bind_eq_some_iff.mp H
     obtain ⟨t757, A230, H⟩ := H
     have A23 := Aside0.mk A230
     clear A230
     replace H := Option.bind_eq_some_iff.mp H
     obtain ⟨⟨t760, t761, t762⟩, A240, H⟩ := H
     try dsimp only at H
     have A24 := Aside0.mk A240
     clear A240
     replace H := Option.bind_eq_some_iff.mp H
     obtain ⟨⟨t763, t764, t765⟩, A250, H⟩ := H
     try dsimp only at H
     have A25 := Aside0.mk A250
     clear A250
     replace H := Option.bind_eq_some_iff.mp H
     obtain ⟨t766, A260, H⟩ := H
     have A26 := Aside0.mk A260
     clear A260
     have HC27 := Aside0.mk H
     clear H
     try go_wp2
     replace BK728 := Aside0.mk (blk_drew BK728.out)
     replace BK729 := Aside0.mk (blk_drew BK729.out)
     replace BK730 := Aside0.mk (blk_drew BK730.out)
     replace HB := Aside0.mk (below_drew1 HB.out)
     refine start_ (n := 10) (S := fun w' => w'.cell? ⟨gb728, 0, none⟩ = some (.int .i64 a0_0) ∧ w'.cell? ⟨gb728, 1, none⟩ = some (.slice A0_1 l0_1.length c0_1) ∧ w'.cell? ⟨gb728, 2, none⟩ = some (.slice A0_2 l0_2.length c0_2) ∧ w'.cell? ⟨gb729, 0, none⟩ = some (.int .i64 a2_0) ∧ w'.cell? ⟨gb729, 1, none⟩ = some (.int .i64 a2_1) ∧ w'.cell? ⟨gb729, 2, none⟩ = some (.int .i64 a2_2) ∧ w'.cell? ⟨gb730, 0, none⟩ = some (.int .i64 a3_0) ∧ w'.cell? ⟨gb730, 1, none⟩ = some (.int .i64 a3_1) ∧ w'.cell? ⟨gb730, 2, none⟩ = some (.int .i64 a3_2)) (ds := []) #[false, false, false, false, false, false, false, false, false, false] (by kernel_rfl) rfl rfl ⟨(blk_cell BK728.out 0).trans rfl, (blk_cell BK728.out 1).trans rfl, (blk_cell BK728.out 2).trans rfl, (blk_cell BK729.out 0).trans rfl, (blk_cell BK729.out 1).trans rfl, (blk_cell BK729.out 2).trans rfl, (blk_cell BK730.out 0).trans rfl, (blk_cell BK730.out 1).trans rfl, (blk_cell BK730.out 2).trans rfl⟩ (fun hHeld => ?_); refine with_tabW laws_FnExactEitherOrder.tab7 laws_FnExactEitherOrder.bits7 (fun HT_ HW_ => ?_)
     generalize wc.drew = w28 at BK728 BK729 BK730 HB hHeld ⊢
     refine Z.pv 2 24 10 4 HT_.out ?_
     refine Z.t9 0 22 10 5 HT_.out HW_.out hHeld ?_
     refine Z.t9 4 26 10 21 HT_.out HW_.out hHeld ?_
     refine Z.t9 6 28 10 85 HT_.out HW_.out hHeld ?_
     refine one_ (i := 1) (N := some 23) (Z.mb 10 87) rfl rfl (one_of HT_.out (by kernel_rfl)) (by decide) (fun K hK => ?_)
     refine goes_ Try.func20 (by kernel_rfl) rfl #[.agg #[.int .i64 a0_0, .slice A0_1 l0_1.length c0_1, .slice A0_2 l0_2.length c0_2]] (by rfl) rfl rfl Z.ar ?_
     with_reducible refine (laws_toCharter.calls kj10 a0_0 _ _ l0_1 _ _ l0_2 t732 t733 t736 _ ?q1 ?q2 ?q3 ?q4 A17.out).mono ?_
     (case q1 => exact Z.cc HR0_1 HB)
     (case q2 => exact HC0_1.out)
     (case q3 => exact Z.cc HR0_2 HB)
     (case q4 => exact HC0_2.out)
     rintro e w29 ⟨v734, v737, rfl, ho0, ho1, hb⟩
     refine ⟨_, rfl, ?_⟩
     have HO735 := Aside0.mk (Kd.R_lower ho0 (below_size (by repeat ((with_reducible exact HB.out)))))
     have HO738 := Aside0.mk (Kd.R_lower ho1 (below_size (by repeat ((with_reducible exact HB.out)))))
     replace BK728 := Z.bb BK728 hb
     replace BK729 := Z.bb BK729 hb
     replace BK730 := Z.bb BK730 hb
     replace HB := Aside0.mk (below_step (by repeat ((with_reducible exact HB.out))) hb)
     (try clear hb)
     (try clear ho0)
     (try clear ho1)
     refine hK.out _ _ ⟨(blk_cell BK728.out 0).trans rfl, (blk_cell BK728.out 1).trans rfl, (blk_cell BK728.out 2).trans rfl, (blk_cell BK729.out 0).trans rfl, (blk_cell BK729.out 1).trans rfl, (blk_cell BK729.out 2).trans rfl, (blk_cell BK730.out 0).trans rfl, (blk_cell BK730.out 1).trans rfl, (blk_cell BK730.out 2).trans rfl⟩ (fun hHeld => ?_)
     clear hK K
     refine Z.nm ?_
     refine one_ (i := 3) (N := some 25) (Z.mb 10 95) rfl rfl (one_of HT_.out (by kernel_rfl)) (by decide) (fun K hK => ?_)
     refine goes_ Try.func21 (by kernel_rfl) rfl #[.slice A1 l1.length c1] (by rfl) rfl rfl Z.ar ?_
     with_reducible refine (laws_toIntS.calls kj10 _ _ l1 t739 _ ?q1 ?q2 A18.out).mono ?_
     (case q1 => exact Z.cc HR1 HB)
     (case q2 => exact HC1.out)
     rintro e w30 ⟨v740, rfl, ho0, hb⟩
     refine ⟨_, rfl, ?_⟩
     replace HO738 := Aside0.mk (Kd.R_below (by (with_reducible skip); exact HO738.out) hb)
     have HO741 := Aside0.mk (Kd.R_lower (Kd.R_new' ho0 (Kd.R_lt (by (with_reducible skip); exact HO735.out))) (below_size (by repeat ((with_reducible exact HB.out)))))
     replace HO735 := Aside0.mk (Kd.R_elder' (by (with_reducible skip); exact HO735.out) (Kd.R_base ho0) hb)
     replace BK728 := Z.bb BK728 hb
     replace BK729 := Z.bb BK729 hb
     replace BK730 := Z.bb BK730 hb
     replace HB := Aside0.mk (below_step (by repeat ((with_reducible exact HB.out))) hb)
     (try clear hb)
     (try clear ho0)
     refine hK.out _ _ ⟨(blk_cell BK728.out 0).trans rfl, (blk_cell BK728.out 1).trans rfl, (blk_cell BK728.out 2).trans rfl, (blk_cell BK729.out 0).trans rfl, (blk_cell BK729.out 1).trans rfl, (blk_cell BK729.out 2).trans rfl, (blk_cell BK730.out 0).trans rfl, (blk_cell BK730.out 1).trans rfl, (blk_cell BK730.out 2).trans rfl⟩ (fun hHeld => ?_)
     clear hK K
     refine Z.nm ?_
     refine one_ (i := 5) (N := some 27) (Z.mb 10 127) rfl rfl (one_of HT_.out (by kernel_rfl)) (by decide) (fun K hK => ?_)
     refine goes_ Try.func37 (by kernel_rfl) rfl #[.agg #[.int .i64 a2_0, .int .i64 a2_1, .int .i64 a2_2]] (by rfl) rfl rfl Z.ar ?_
     with_reducible refine (laws_toAct.calls a2_0 a2_1 a2_2 t742 t743 t744 _ A19.out).mono ?_
     rintro e w31 ⟨rfl, hb⟩
     refine ⟨_, rfl, ?_⟩
     replace HO735 := Aside0.mk (Kd.R_below (by (with_reducible skip); exact HO735.out) hb)
     replace HO738 := Aside0.mk (Kd.R_below (by (with_reducible skip); exact HO738.out) hb)
     replace HO741 := Aside0.mk (Kd.R_below (by (with_reducible skip); exact HO741.out) hb)
     replace BK728 := Z.bb BK728 hb
     replace BK729 := Z.bb BK729 hb
     replace BK730 := Z.bb BK730 hb
     replace HB := Aside0.mk (below_step (by repeat ((with_reducible exact HB.out))) hb)
     (try clear hb)
     refine hK.out _ _ ⟨(blk_cell BK728.out 0).trans rfl, (blk_cell BK728.out 1).trans rfl, (blk_cell BK728.out 2).trans rfl, (blk_cell BK729.out 0).trans rfl, (blk_cell BK729.out 1).trans rfl, (blk_cell BK729.out 2).trans rfl, (blk_cell BK730.out 0).trans rfl, (blk_cell BK730.out 1).trans rfl, (blk_cell BK730.out 2).trans rfl⟩ (fun hHeld => ?_)
     clear hK K
     refine Z.nm ?_
     refine one_ (i := 7) (N := some 29) (Z.mb 10 255) rfl rfl (one_of HT_.out (by kernel_rfl)) (by decide) (fun K hK => ?_)
     refine goes_ Try.func37 (by kernel_rfl) rfl #[.agg #[.int .i64 a3_0, .int .i64 a3_1, .int .i64 a3_2]] (by rfl) rfl rfl Z.ar ?_
     with_reducible refine (laws_toAct.calls a3_0 a3_1 a3_2 t745 t746 t747 _ A20.out).mono ?_
     rintro e w32 ⟨rfl, hb⟩
     refine ⟨_, rfl, ?_⟩
     replace HO735 := Aside0.mk (Kd.R_below (by (with_reducible skip); exact HO735.out) hb)
     replace HO738 := Aside0.mk (Kd.R_below (by (with_reducible skip); exact HO738.out) hb)
     replace HO741 := Aside0.mk (Kd.R_below (by (with_reducible skip); exact HO741.out) hb)
     replace BK728 := Z.bb BK728 hb
     replace BK729 := Z.bb BK729 hb
     replace BK730 := Z.bb BK730 hb
     replace HB := Aside0.mk (below_step (by repeat ((with_reducible exact HB.out))) hb)
     (try clear hb)
     obtain ⟨Ao33, co33, eo33⟩ := Kd.R_slice HO735.out
     (subst eo33)
     obtain ⟨Ao34, co34, eo34⟩ := Kd.R_slice HO738.out
     (subst eo34)
     obtain ⟨Ao35, co35, eo35⟩ := Kd.R_slice HO741.out
     (subst eo35)
     refine hK.out _ _ ⟨(blk_cell BK728.out 0).trans rfl, (blk_cell BK728.out 1).trans rfl, (blk_cell BK728.out 2).trans rfl, (blk_cell BK729.out 0).trans rfl, (blk_cell BK729.out 1).trans rfl, (blk_cell BK729.out 2).trans rfl, (blk_cell BK730.out 0).trans rfl, (blk_cell BK730.out 1).trans rfl, (blk_cell BK730.out 2).trans rfl⟩ (fun hHeld => ?_)
     clear hK K
     refine Z.nm ?_
     refine one_ (i := 8) (N := some 30) (Z.mb 10 511) rfl rfl (one_of HT_.out (by kernel_rfl)) (by decide) (fun K hK => ?_)
     refine goes_ Try.func39 (by kernel_rfl) rfl #[.agg #[.int .i64 t732, .slice Ao33 t733.length co33, .slice Ao34 t736.length co34], .slice Ao35 t739.length co35, .agg #[.int .i64 t742, .int .i64 t743, .int .i64 t744], .agg #[.int .i64 t745, .int .i64 t746, .int .i64 t747]] (by rfl) rfl rfl Z.ar ?_
     with_reducible refine (spec_EitherOrder.calls kj10 t732 _ _ t733 _ _ t736 _ _ t739 t742 t743 t744 t745 t746 t747 t748 _ ?q1 ?q2 ?q3 ?q4 ?q5 ?q6 A21.out).mono ?_
     (case q1 => repeat (exact (Kd.R_reads' HO735.out).2.2))
     (case q2 => exact (Kd.R_reads' HO735.out).2.1)
     (case q3 => repeat (exact (Kd.R_reads' HO738.out).2.2))
     (case q4 => exact (Kd.R_reads' HO738.out).2.1)
     (case q5 => repeat (exact (Kd.R_reads' HO741.out).2.2))
     (case q6 => exact (Kd.R_reads' HO741.out).2.1)
     rintro e w36 ⟨rfl, hb⟩
     refine ⟨_, rfl, ?_⟩
     replace HO735 := Aside0.mk (Kd.R_below (by (with_reducible skip); exact HO735.out) hb)
     replace HO738 := Aside0.mk (Kd.R_below (by (with_reducible skip); exact HO738.out) hb)
     replace HO741 := Aside0.mk (Kd.R_below (by (with_reducible skip); exact HO741.out) hb)
     replace BK728 := Z.bb BK728 hb
     replace BK729 := Z.bb BK729 hb
     replace BK730 := Z.bb BK730 hb
     replace HB := Aside0.mk (below_step (by repeat ((with_reducible exact HB.out))) hb)
     (try clear hb)
     refine hK.out _ _ ⟨(blk_cell BK728.out 0).trans rfl, (blk_cell BK728.out 1).trans rfl, (blk_cell BK728.out 2).trans rfl, (blk_cell BK729.out 0).trans rfl, (blk_cell BK729.out 1).trans rfl, (blk_cell BK729.out 2).trans rfl, (blk_cell BK730.out 0).trans rfl, (blk_cell BK730.out 1).trans rfl, (blk_cell BK730.out 2).trans rfl⟩ (fun hHeld => ?_)
     clear hK K
     refine Z.nm ?_
     refine Z.pv 9 10 10 1023 HT_.out ?_
     refine done_ (done_of HT_.out (by kernel_rfl)) ?_
     have hnb37 := NB728_729.out
     have hnc37 := NB729_728.out
     have hnb38 := NB728_730.out
     have hnc38 := NB730_728.out
     have hcz39 := Z.c3 BK728.out
     try go_wp2_with (first | ((with_reducible refine gate_callee (f := 20) rfl ?_); refine goesL_ (some 32) rfl rfl Try.func20 (by kernel_rfl) rfl #[.agg #[.int .i64 a0_0, .slice A0_1 l0_1.length c0_1, .slice A0_2 l0_2.length c0_2]] rfl Z.ar ?_; (with_reducible refine (laws_toCharter.calls kj10 a0_0 _ _ l0_1 _ _ l0_2 t749 t750 t753 _ ?q1 ?q2 ?q3 ?q4 A22.out).mono ?_); (case q1 => exact Z.cc HR0_1 HB); (case q2 => exact HC0_1.out); (case q3 => exact Z.cc HR0_2 HB); (case q4 => exact HC0_2.out); rintro e w40 ⟨v751, v754, rfl, ho0, ho1, hb⟩; refine ⟨_, rfl, ?_⟩; have HO752 := Aside0.mk (Kd.R_lower (Kd.R_new' (Kd.R_new' ho0 (Kd.R_lt (by (with_reducible skip); exact HO735.out))) (Kd.R_lt (by (with_reducible skip); exact HO741.out))) (below_size (by repeat ((with_reducible exact HB.out))))); replace HO735 := Aside0.mk (Kd.R_elder' (by (with_reducible skip); exact HO735.out) (Kd.R_base ho0) hb); replace HO741 := Aside0.mk (Kd.R_elder' (by (with_reducible skip); exact HO741.out) (Kd.R_base ho0) hb); have HO755 := Aside0.mk (Kd.R_lower (Kd.R_new' ho1 (Kd.R_lt (by (with_reducible skip); exact HO738.out))) (below_size (by repeat ((with_reducible exact HB.out))))); replace HO738 := Aside0.mk (Kd.R_elder' (by (with_reducible skip); exact HO738.out) (Kd.R_base ho1) hb); replace BK728 := Z.bb BK728 hb; replace BK729 := Z.bb BK729 hb; replace BK730 := Z.bb BK730 hb; replace HB := Aside0.mk (below_step (by repeat ((with_reducible exact HB.out))) hb); (try clear hb); (try clear ho0); (try clear ho1)) | ((with_reducible refine gate_dst (N := 11) rfl ?_); refine box_event ?hg (N := 11) ?hd (cs := #[.int .i64 0, .slice none 0 0, .slice none 0 0]) (t := 35) ?hr ?_; (case hd | hg => rfl); (case hr => (go_simp; done)); intro gb756 hg w41 hbox hb; replace HO735 := Aside0.mk (Kd.R_below (by (with_reducible skip); exact HO735.out) hb); replace HO738 := Aside0.mk (Kd.R_below (by (with_reducible skip); exact HO738.out) hb); replace HO741 := Aside0.mk (Kd.R_below (by (with_reducible skip); exact HO741.out) hb); replace HO752 := Aside0.mk (Kd.R_below (by (with_reducible skip); exact HO752.out) hb); replace HO755 := Aside0.mk (Kd.R_below (by (with_reducible skip); exact HO755.out) hb); have BK756 := Aside0.mk (hbox); have GW756 := Aside0.mk ((by rw [hg]; exact (below_size (by repeat ((with_reducible exact HB.out)))) : w.heap.size ≤ gb756)); have GE756 := Aside0.mk ((by rw [hg]; exact (below_size (by repeat ((with_reducible exact HB.out)))) : w.heap.size ≤ gb756)); replace HB := Aside0.mk (below_step (by repeat ((with_reducible exact HB.out))) hb); have NB728_756 := Z.nl hg BK728; have NB756_728 := Z.ng hg BK728; replace BK728 := Z.bb BK728 hb; have NB729_756 := Z.nl hg BK729; have NB756_729 := Z.ng hg BK729; replace BK729 := Z.bb BK729 hb; have NB730_756 := Z.nl hg BK730; have NB756_730 := Z.ng hg BK730; replace BK730 := Z.bb BK730 hb; clear hb hbox hg; have hnb42 := NB756_728.out; have hnc42 := NB728_756.out; have hnb43 := NB756_729.out; have hnc43 := NB729_756.out; have hnb44 := NB756_730.out; have hnc44 := NB730_756.out; have hcz45 := Z.c3 BK756.out; obtain ⟨Ao46, co46, eo46⟩ := Kd.R_slice HO752.out; subst eo46; obtain ⟨Ao47, co47, eo47⟩ := Kd.R_slice HO755.out; subst eo47) | ((with_reducible refine gate_callee (f := 21) rfl ?_); refine goesL_ (some 34) rfl rfl Try.func21 (by kernel_rfl) rfl #[.slice A1 l1.length c1] rfl Z.ar ?_; (with_reducible refine (laws_toIntS.calls kj10 _ _ l1 t757 _ ?q1 ?q2 A23.out).mono ?_); (case q1 => exact Kd.C_below HR1.out (by repeat ((with_reducible first | exact HB.out | refine below_set ?_ GE756.out)))); (case q2 => exact HC1.out); rintro e w48 ⟨v758, rfl, ho0, hb⟩; refine ⟨_, rfl, ?_⟩; replace HO738 := Aside0.mk (Kd.R_below (by (with_reducible skip); exact (Kd.R_mono (Kd.R_far (p := ⟨gb756, 2, none⟩) (Kd.R_far (p := ⟨gb756, 1, none⟩) (Kd.R_far (p := ⟨gb756, 0, none⟩) (Kd.R_types HO738.out BK756.out (by decide)) (fun _ hk => hk.2) (.int .i64 t749)) (fun _ hk => hk.2) (.slice Ao46 t750.length co46)) (fun _ hk => hk.2) (.slice Ao47 t753.length co47)) (fun _ h_ => h_.1))) hb); replace HO755 := Aside0.mk (Kd.R_below (by (with_reducible skip); exact (Kd.R_mono (Kd.R_far (p := ⟨gb756, 2, none⟩) (Kd.R_far (p := ⟨gb756, 1, none⟩) (Kd.R_far (p := ⟨gb756, 0, none⟩) (Kd.R_types HO755.out BK756.out (by decide)) (fun _ hk => hk.2) (.int .i64 t749)) (fun _ hk => hk.2) (.slice Ao46 t750.length co46)) (fun _ hk => hk.2) (.slice Ao47 t753.length co47)) (fun _ h_ => h_.1))) hb); have HO759 := Aside0.mk (Kd.R_lower (Kd.R_new' (Kd.R_new' (Kd.R_new' ho0 (Kd.R_lt (by (with_reducible skip); exact (Kd.R_mono (Kd.R_far (p := ⟨gb756, 2, none⟩) (Kd.R_far (p := ⟨gb756, 1, none⟩) (Kd.R_far (p := ⟨gb756, 0, none⟩) (Kd.R_types HO735.out BK756.out (by decide)) (fun _ hk => hk.2) (.int .i64 t749)) (fun _ hk => hk.2) (.slice Ao46 t750.length co46)) (fun _ hk => hk.2) (.slice Ao47 t753.length co47)) (fun _ h_ => h_.1))))) (Kd.R_lt (by (with_reducible skip); exact (Kd.R_mono (Kd.R_far (p := ⟨gb756, 2, none⟩) (Kd.R_far (p := ⟨gb756, 1, none⟩) (Kd.R_far (p := ⟨gb756, 0, none⟩) (Kd.R_types HO741.out BK756.out (by decide)) (fun _ hk => hk.2) (.int .i64 t749)) (fun _ hk => hk.2) (.slice Ao46 t750.length co46)) (fun _ hk => hk.2) (.slice Ao47 t753.length co47)) (fun _ h_ => h_.1))))) (Kd.R_lt (by (with_reducible skip); exact (Kd.R_mono (Kd.R_far (p := ⟨gb756, 2, none⟩) (Kd.R_far (p := ⟨gb756, 1, none⟩) (Kd.R_far (p := ⟨gb756, 0, none⟩) (Kd.R_types HO752.out BK756.out (by decide)) (fun _ hk => hk.2) (.int .i64 t749)) (fun _ hk => hk.2) (.slice Ao46 t750.length co46)) (fun _ hk => hk.2) (.slice Ao47 t753.length co47)) (fun _ h_ => h_.1))))) (below_size (by repeat ((with_reducible first | exact HB.out | refine below_set ?_ GE756.out))))); replace HO735 := Aside0.mk (Kd.R_elder' (by (with_reducible skip); exact (Kd.R_mono (Kd.R_far (p := ⟨gb756, 2, none⟩) (Kd.R_far (p := ⟨gb756, 1, none⟩) (Kd.R_far (p := ⟨gb756, 0, none⟩) (Kd.R_types HO735.out BK756.out (by decide)) (fun _ hk => hk.2) (.int .i64 t749)) (fun _ hk => hk.2) (.slice Ao46 t750.length co46)) (fun _ hk => hk.2) (.slice Ao47 t753.length co47)) (fun _ h_ => h_.1))) (Kd.R_base ho0) hb); replace HO741 := Aside0.mk (Kd.R_elder' (by (with_reducible skip); exact (Kd.R_mono (Kd.R_far (p := ⟨gb756, 2, none⟩) (Kd.R_far (p := ⟨gb756, 1, none⟩) (Kd.R_far (p := ⟨gb756, 0, none⟩) (Kd.R_types HO741.out BK756.out (by decide)) (fun _ hk => hk.2) (.int .i64 t749)) (fun _ hk => hk.2) (.slice Ao46 t750.length co46)) (fun _ hk => hk.2) (.slice Ao47 t753.length co47)) (fun _ h_ => h_.1))) (Kd.R_base ho0) hb); replace HO752 := Aside0.mk (Kd.R_elder' (by (with_reducible skip); exact (Kd.R_mono (Kd.R_far (p := ⟨gb756, 2, none⟩) (Kd.R_far (p := ⟨gb756, 1, none⟩) (Kd.R_far (p := ⟨gb756, 0, none⟩) (Kd.R_types HO752.out BK756.out (by decide)) (fun _ hk => hk.2) (.int .i64 t749)) (fun _ hk => hk.2) (.slice Ao46 t750.length co46)) (fun _ hk => hk.2) (.slice Ao47 t753.length co47)) (fun _ h_ => h_.1))) (Kd.R_base ho0) hb); replace BK728 := Aside0.mk (blk_below (g := gb728) (o := .cells #[.int .i64 a0_0, .slice A0_1 l0_1.length c0_1, .slice A0_2 l0_2.length c0_2] 27 (0, 0)) (by (with_reducible skip); refine blk_far ?_ NB728_756.out _; (with_reducible skip); refine blk_far ?_ NB728_756.out _; (with_reducible skip); refine blk_far ?_ NB728_756.out _; (with_reducible skip); exact BK728.out) hb); replace BK729 := Aside0.mk (blk_below (g := gb729) (o := .cells #[.int .i64 a2_0, .int .i64 a2_1, .int .i64 a2_2] 51 (0, 0)) (by (with_reducible skip); refine blk_far ?_ NB729_756.out _; (with_reducible skip); refine blk_far ?_ NB729_756.out _; (with_reducible skip); refine blk_far ?_ NB729_756.out _; (with_reducible skip); exact BK729.out) hb); replace BK730 := Aside0.mk (blk_below (g := gb730) (o := .cells #[.int .i64 a3_0, .int .i64 a3_1, .int .i64 a3_2] 51 (0, 0)) (by (with_reducible skip); refine blk_far ?_ NB730_756.out _; (with_reducible skip); refine blk_far ?_ NB730_756.out _; (with_reducible skip); refine blk_far ?_ NB730_756.out _; (with_reducible skip); exact BK730.out) hb); replace BK756 := Aside0.mk (blk_below (g := gb756) (o := .cells #[.int .i64 t749, .slice Ao46 t750.length co46, .slice Ao47 t753.length co47] 35 (0, 0)) (by (with_reducible skip); refine blk_put (cs := #[.int .i64 t749, .slice Ao46 t750.length co46, .slice none 0 0]) ?_ 2 _ rfl; (with_reducible skip); refine blk_put (cs := #[.int .i64 t749, .slice none 0 0, .slice none 0 0]) ?_ 1 _ rfl; (with_reducible skip); refine blk_put (cs := #[.int .i64 0, .slice none 0 0, .slice none 0 0]) ?_ 0 _ rfl; (with_reducible skip); exact BK756.out) hb); replace HB := Aside0.mk (below_step (by repeat ((with_reducible first | exact HB.out | refine below_set ?_ GE756.out))) hb); (try clear hb); (try clear ho0)))
     replace HO735 := Aside0.mk (Kd.R_drew HO735.out)
     replace HO738 := Aside0.mk (Kd.R_drew HO738.out)
     replace HO741 := Aside0.mk (Kd.R_drew HO741.out)
     replace HO752 := Aside0.mk (Kd.R_drew HO752.out)
     replace HO755 := Aside0.mk (Kd.R_drew HO755.out)
     replace HO759 := Aside0.mk (Kd.R_drew HO759.out)
     replace BK728 := Aside0.mk (blk_drew BK728.out)
     replace BK729 := Aside0.mk (blk_drew BK729.out)
     replace BK730 := Aside0.mk (blk_drew BK730.out)
     replace BK756 := Aside0.mk (blk_drew BK756.out)
     replace HB := Aside0.mk (below_drew1 HB.out)
     refine start_ (n := 8) (S := fun w' => w'.cell? ⟨gb756, 0, none⟩ = some (.int .i64 t749) ∧ w'.cell? ⟨gb756, 1, none⟩ = some (.slice Ao46 t750.length co46) ∧ w'.cell? ⟨gb756, 2, none⟩ = some (.slice Ao47 t753.length co47) ∧ w'.cell? ⟨gb729, 0, none⟩ = some (.int .i64 a2_0) ∧ w'.cell? ⟨gb729, 1, none⟩ = some (.int .i64 a2_1) ∧ w'.cell? ⟨gb729, 2, none⟩ = some (.int .i64 a2_2) ∧ w'.cell? ⟨gb730, 0, none⟩ = some (.int .i64 a3_0) ∧ w'.cell? ⟨gb730, 1, none⟩ = some (.int .i64 a3_1) ∧ w'.cell? ⟨gb730, 2, none⟩ = some (.int .i64 a3_2)) (ds := []) #[false, false, false, false, false, false, false, false] (by kernel_rfl) rfl rfl ⟨(blk_cell BK756.out 0).trans rfl, (blk_cell BK756.out 1).trans rfl, (blk_cell BK756.out 2).trans rfl, (blk_cell BK729.out 0).trans rfl, (blk_cell BK729.out 1).trans rfl, (blk_cell BK729.out 2).trans rfl, (blk_cell BK730.out 0).trans rfl, (blk_cell BK730.out 1).trans rfl, (blk_cell BK730.out 2).trans rfl⟩ (fun hHeld => ?_); refine with_tabW laws_FnExactEitherOrder.tab10 laws_FnExactEitherOrder.bits10 (fun HT_ HW_ => ?_)
     generalize w48.drew = w49 at HO735 HO738 HO741 HO752 HO755 HO759 BK728 BK729 BK730 BK756 HB hHeld ⊢
     refine Z.pv 1 36 8 2 HT_.out ?_
     refine Z.t9 0 35 8 3 HT_.out HW_.out hHeld ?_
     refine Z.t9 2 37 8 7 HT_.out HW_.out hHeld ?_
     refine Z.t9 4 39 8 23 HT_.out HW_.out hHeld ?_
     refine one_ (i := 3) (N := some 38) (Z.mb 8 31) rfl rfl (one_of HT_.out (by kernel_rfl)) (by decide) (fun K hK => ?_)
     refine goes_ Try.func37 (by kernel_rfl) rfl #[.agg #[.int .i64 a2_0, .int .i64 a2_1, .int .i64 a2_2]] (by rfl) rfl rfl Z.ar ?_
     with_reducible refine (laws_toAct.calls a2_0 a2_1 a2_2 t760 t761 t762 _ A24.out).mono ?_
     rintro e w50 ⟨rfl, hb⟩
     refine ⟨_, rfl, ?_⟩
     replace HO735 := Aside0.mk (Kd.R_below (by (with_reducible skip); exact HO735.out) hb)
     replace HO738 := Aside0.mk (Kd.R_below (by (with_reducible skip); exact HO738.out) hb)
     replace HO741 := Aside0.mk (Kd.R_below (by (with_reducible skip); exact HO741.out) hb)
     replace HO752 := Aside0.mk (Kd.R_below (by (with_reducible skip); exact HO752.out) hb)
     replace HO755 := Aside0.mk (Kd.R_below (by (with_reducible skip); exact HO755.out) hb)
     replace HO759 := Aside0.mk (Kd.R_below (by (with_reducible skip); exact HO759.out) hb)
     replace BK728 := Z.bb BK728 hb
     replace BK729 := Z.bb BK729 hb
     replace BK730 := Z.bb BK730 hb
     replace BK756 := Z.bb BK756 hb
     replace HB := Aside0.mk (below_step (by repeat ((with_reducible exact HB.out))) hb)
     (try clear hb)
     refine hK.out _ _ ⟨(blk_cell BK756.out 0).trans rfl, (blk_cell BK756.out 1).trans rfl, (blk_cell BK756.out 2).trans rfl, (blk_cell BK729.out 0).trans rfl, (blk_cell BK729.out 1).trans rfl, (blk_cell BK729.out 2).trans rfl, (blk_cell BK730.out 0).trans rfl, (blk_cell BK730.out 1).trans rfl, (blk_cell BK730.out 2).trans rfl⟩ (fun hHeld => ?_)
     clear hK K
     refine Z.nm ?_
     refine one_ (i := 5) (N := some 40) (Z.mb 8 63) rfl rfl (one_of HT_.out (by kernel_rfl)) (by decide) (fun K hK => ?_)
     refine goes_ Try.func37 (by kernel_rfl) rfl #[.agg #[.int .i64 a3_0, .int .i64 a3_1, .int .i64 a3_2]] (by rfl) rfl rfl Z.ar ?_
     with_reducible refine (laws_toAct.calls a3_0 a3_1 a3_2 t763 t764 t765 _ A25.out).mono ?_
     rintro e w51 ⟨rfl, hb⟩
     refine ⟨_, rfl, ?_⟩
     replace HO735 := Aside0.mk (Kd.R_below (by (with_reducible skip); exact HO735.out) hb)
     replace HO738 := Aside0.mk (Kd.R_below (by (with_reducible skip); exact HO738.out) hb)
     replace HO741 := Aside0.mk (Kd.R_below (by (with_reducible skip); exact HO741.out) hb)
     replace HO752 := Aside0.mk (Kd.R_below (by (with_reducible skip); exact HO752.out) hb)
     replace HO755 := Aside0.mk (Kd.R_below (by (with_reducible skip); exact HO755.out) hb)
     replace HO759 := Aside0.mk (Kd.R_below (by (with_reducible skip); exact HO759.out) hb)
     replace BK728 := Z.bb BK728 hb
     replace BK729 := Z.bb BK729 hb
     replace BK730 := Z.bb BK730 hb
     replace BK756 := Z.bb BK756 hb
     replace HB := Aside0.mk (below_step (by repeat ((with_reducible exact HB.out))) hb)
     (try clear hb)
     obtain ⟨Ao52, co52, eo52⟩ := Kd.R_slice HO759.out
     (subst eo52)
     refine hK.out _ _ ⟨(blk_cell BK756.out 0).trans rfl, (blk_cell BK756.out 1).trans rfl, (blk_cell BK756.out 2).trans rfl, (blk_cell BK729.out 0).trans rfl, (blk_cell BK729.out 1).trans rfl, (blk_cell BK729.out 2).trans rfl, (blk_cell BK730.out 0).trans rfl, (blk_cell BK730.out 1).trans rfl, (blk_cell BK730.out 2).trans rfl⟩ (fun hHeld => ?_)
     clear hK K
     refine Z.nm ?_
     refine one_ (i := 6) (N := some 41) (Z.mb 8 127) rfl rfl (one_of HT_.out (by kernel_rfl)) (by decide) (fun K hK => ?_)
     refine goes_ Try.func40 (by kernel_rfl) rfl #[.agg #[.int .i64 t749, .slice Ao46 t750.length co46, .slice Ao47 t753.length co47], .slice Ao52 t757.length co52, .agg #[.int .i64 t760, .int .i64 t761, .int .i64 t762], .agg #[.int .i64 t763, .int .i64 t764, .int .i64 t765]] (by rfl) rfl rfl Z.ar ?_
     with_reducible refine (impl_EitherOrder.calls kj10 t749 _ _ t750 _ _ t753 _ _ t757 t760 t761 t762 t763 t764 t765 t766 _ ?q1 ?q2 ?q3 ?q4 ?q5 ?q6 A26.out).mono ?_
     (case q1 => repeat (exact (Kd.R_reads' HO752.out).2.2))
     (case q2 => exact (Kd.R_reads' HO752.out).2.1)
     (case q3 => repeat (exact (Kd.R_reads' HO755.out).2.2))
     (case q4 => exact (Kd.R_reads' HO755.out).2.1)
     (case q5 => repeat (exact (Kd.R_reads' HO759.out).2.2))
     (case q6 => exact (Kd.R_reads' HO759.out).2.1)
     rintro e w53 ⟨rfl, hb⟩
     refine ⟨_, rfl, ?_⟩
     replace HO735 := Aside0.mk (Kd.R_below (by (with_reducible skip); exact HO735.out) hb)
     replace HO738 := Aside0.mk (Kd.R_below (by (with_reducible skip); exact HO738.out) hb)
     replace HO741 := Aside0.mk (Kd.R_below (by (with_reducible skip); exact HO741.out) hb)
     replace HO752 := Aside0.mk (Kd.R_below (by (with_reducible skip); exact HO752.out) hb)
     replace HO755 := Aside0.mk (Kd.R_below (by (with_reducible skip); exact HO755.out) hb)
     replace HO759 := Aside0.mk (Kd.R_below (by (with_reducible skip); exact HO759.out) hb)
     replace BK728 := Z.bb BK728 hb
     replace BK729 := Z.bb BK729 hb
     replace BK730 := Z.bb BK730 hb
     replace BK756 := Z.bb BK756 hb
     replace HB := Aside0.mk (below_step (by repeat ((with_reducible exact HB.out))) hb)
     (try clear hb)
     refine hK.out _ _ ⟨(blk_cell BK756.out 0).trans rfl, (blk_cell BK756.out 1).trans rfl, (blk_cell BK756.out 2).trans rfl, (blk_cell BK729.out 0).trans rfl, (blk_cell BK729.out 1).trans rfl, (blk_cell BK729.out 2).trans rfl, (blk_cell BK730.out 0).trans rfl, (blk_cell BK730.out 1).trans rfl, (blk_cell BK730.out 2).trans rfl⟩ (fun hHeld => ?_)
     clear hK K
     refine Z.nm ?_
     refine Z.pv 7 13 8 255 HT_.out ?_
     refine done_ (done_of HT_.out (by kernel_rfl)) ?_
     go_upto_if 44 with (fail)
     go_cut [] (fun wc => ∃ (kq : Nat), Aside0 (laws_FnExactEitherOrder.j2 kq l1 t757 a0_0 l0_1 l0_2 t749 t750 t753 = some r) ∧ Aside0 (kq ≤ kj10) ∧ Aside0 (Kd.R (Kd.int .i64) 3 wc w.heap.size (fun k_ => some k_ ≠ ((.slice Ao46 t750.length co46) : Value).ownBlock) (.slice Ao52 t757.length co52) t757) ∧ Aside0 (Kd.R (Kd.int .i64) 3 wc w.heap.size (fun k_ => some k_ ≠ ((.slice Ao52 t757.length co52) : Value).ownBlock) (.slice Ao46 t750.length co46) t750) ∧ Aside0 (Kd.R (Kd.slice 86 k86) 83 wc w.heap.size (fun _ => True) (.slice Ao47 t753.length co47) t753) ∧ Aside0 (wc.heap[gb728]? = some (.cells #[.int .i64 a0_0, (.slice A0_1 l0_1.length c0_1), (.slice A0_2 l0_2.length c0_2)] 27 (0, 0))) ∧ Aside0 (wc.heap[gb729]? = some (.cells #[.int .i64 a2_0, .int .i64 a2_1, .int .i64 a2_2] 51 (0, 0))) ∧ Aside0 (wc.heap[gb730]? = some (.cells #[.int .i64 a3_0, .int .i64 a3_1, .int .i64 a3_2] 51 (0, 0))) ∧ Aside0 (wc.heap[gb756]? = some (.cells #[.int .i64 t749, (.slice Ao46 t750.length co46), (.slice Ao47 t753.length co47)] 35 (0, 0))) ∧ Aside0 (Below w.heap.size w wc))
     case first =>
      have H := HC27.out
      clear HC27
      by_cases c54 : (t766 != t748) = true
      ·rw [if_pos c54] at H
       have c54b0 : (t766 != t748) = true := c54
       (try (have c54b4 : (!t766 == t748) = true := (by decide : ∀ a b : Bool, (a != b) = true → (!a == b) = true) _ _ c54b0))
       (try (have c54b1 : decide (t766 = t748) = false := by simpa using c54))
       (try (have c54b2 : (t766 == t748) = false := by simpa using c54))
       (try (have c54b3 : ¬ (t766 = t748) := by simpa using c54))
       clear c54
       (rw [c54b4])
       obtain rfl := Option.some.inj H
       go_wp2
       go_ret
       exact ⟨by rfl, by repeat ((with_reducible exact HB.out))⟩
      ·rw [if_neg c54] at H
       have c54b0 : (t766 != t748) = false := by simpa using c54
       (try (have c54b4 : (!t766 == t748) = false := (by decide : ∀ a b : Bool, (a != b) = false → (!a == b) = false) _ _ c54b0))
       (try (have c54b1 : decide (t766 = t748) = true := by simpa using c54))
       (try (have c54b2 : (t766 == t748) = true := by simpa using c54))
       clear c54
       (rw [c54b4])
       have H' := Aside0.mk H
       clear H
       go_wp2
       go_meet
       case rel => exact ⟨_, H', ⟨by have := HJ4.out; have := HJ10.out; omega⟩, ⟨by (with_reducible skip); exact Kd.R_mono HO759.out (fun _ hk => hk.2)⟩, ⟨by (with_reducible skip); exact Kd.R_mono HO752.out (fun _ hk => hk.2)⟩, ⟨by (with_reducible skip); exact Kd.R_mono HO755.out (fun _ hk => trivial)⟩, ⟨by (with_reducible skip); exact BK728.out⟩, ⟨by (with_reducible skip); exact BK729.out⟩, ⟨by (with_reducible skip); exact BK730.out⟩, ⟨by (with_reducible skip); exact BK756.out⟩, ⟨by repeat ((with_reducible exact HB.out))⟩⟩
     case rest =>
      clear HC27
      obtain ⟨kq, HA, HJ26, HO_12, HO_757001, HO_757002, BK728, BK729, BK730, BK756, HB⟩ := hcut
      cases kq with
      | zero => exact absurd HA.out (by simp [laws_FnExactEitherOrder.j2])
      | succ kj26 =>
       have H := HA.out
       clear HA
       simp only [laws_FnExactEitherOrder.j2] at H
       replace H := Option.bind_eq_some_iff.mp H
       obtain ⟨⟨t767, t768, t771⟩, A550, H⟩ := H
       try dsimp only at H
       have A55 := Aside0.mk A550
       clear A550
       replace H := Option.bind_eq_some_iff.mp H
       obtain ⟨t774, A560, H⟩ := H
       have A56 := Aside0.mk A560
       clear A560
       have HC57 := Aside0.mk H
       clear H
       try go_wp2
       replace HO_12 := Aside0.mk (Kd.R_drew HO_12.out)
       replace HO_757001 := Aside0.mk (Kd.R_drew HO_757001.out)
       replace HO_757002 := Aside0.mk (Kd.R_drew HO_757002.out)
       replace BK728 := Aside0.mk (blk_drew BK728.out)
       replace BK729 := Aside0.mk (blk_drew BK729.out)
       replace BK730 := Aside0.mk (blk_drew BK730.out)
       replace BK756 := Aside0.mk (blk_drew BK756.out)
       replace HB := Aside0.mk (below_drew1 HB.out)
       refine start_ (n := 5) (S := fun w' => w'.cell? ⟨gb756, 0, none⟩ = some (.int .i64 t749) ∧ w'.cell? ⟨gb756, 1, none⟩ = some (.slice Ao46 t750.length co46) ∧ w'.cell? ⟨gb756, 2, none⟩ = some (.slice Ao47 t753.length co47) ∧ w'.cell? ⟨gb728, 0, none⟩ = some (.int .i64 a0_0) ∧ w'.cell? ⟨gb728, 1, none⟩ = some (.slice A0_1 l0_1.length c0_1) ∧ w'.cell? ⟨gb728, 2, none⟩ = some (.slice A0_2 l0_2.length c0_2)) (ds := []) #[false, false, false, false, false] (by kernel_rfl) rfl rfl ⟨(blk_cell BK756.out 0).trans rfl, (blk_cell BK756.out 1).trans rfl, (blk_cell BK756.out 2).trans rfl, (blk_cell BK728.out 0).trans rfl, (blk_cell BK728.out 1).trans rfl, (blk_cell BK728.out 2).trans rfl⟩ (fun hHeld => ?_)
       generalize wc.drew = w58 at HO_12 HO_757001 HO_757002 BK728 BK729 BK730 BK756 HB hHeld ⊢
       refine take_ (i := 0) (N := some 45) (v := ?_) (a' := ?_) #[true, false, false, false, false] rfl rfl (by kernel_rfl) (fun _ _ _ h => h) (Or.inl ⟨by rfl, ?_⟩) hHeld ?_ ?_
       rotate_left
       ·rintro w' ⟨s0, s1, s2, s3, s4, s5⟩
        go_simp
        with_reducible rfl
       rotate_left
       ·simp only [Act.put, List.setIfInBounds_toArray, List.set_cons_zero, List.set_cons_succ, i64_w, i32_w]
        rfl
       refine take_ (i := 1) (N := some 46) (v := ?_) (a' := ?_) #[true, true, false, false, false] rfl rfl (by kernel_rfl) (fun _ _ _ h => h) (Or.inl ⟨by rfl, ?_⟩) hHeld ?_ ?_
       rotate_left
       ·rintro w' ⟨s0, s1, s2, s3, s4, s5⟩
        go_simp
        with_reducible rfl
       rotate_left
       ·simp only [Act.put, List.setIfInBounds_toArray, List.set_cons_zero, List.set_cons_succ, i64_w, i32_w]
        rfl
       refine one_ (i := 2) (N := some 47) (Z.mb 5 7) rfl rfl (by kernel_rfl) (by decide) (fun K hK => ?_)
       refine goes_ Try.func20 (by kernel_rfl) rfl #[.agg #[.int .i64 a0_0, .slice A0_1 l0_1.length c0_1, .slice A0_2 l0_2.length c0_2]] (by rfl) rfl rfl Z.ar ?_
       with_reducible refine (laws_toCharter.calls kj26 a0_0 _ _ l0_1 _ _ l0_2 t767 t768 t771 _ ?q1 ?q2 ?q3 ?q4 A55.out).mono ?_
       (case q1 => exact Z.cc HR0_1 HB)
       (case q2 => exact HC0_1.out)
       (case q3 => exact Z.cc HR0_2 HB)
       (case q4 => exact HC0_2.out)
       rintro e w59 ⟨v769, v772, rfl, ho0, ho1, hb⟩
       refine ⟨_, rfl, ?_⟩
       have HO770 := Aside0.mk (Kd.R_lower (Kd.R_new' (Kd.R_new' ho0 (Kd.R_lt (by (with_reducible skip); exact HO_12.out))) (Kd.R_lt (by (with_reducible skip); exact HO_757001.out))) (below_size (by repeat ((with_reducible exact HB.out)))))
       replace HO_12 := Aside0.mk (Kd.R_elder' (by (with_reducible skip); exact HO_12.out) (Kd.R_base ho0) hb)
       replace HO_757001 := Aside0.mk (Kd.R_elder' (by (with_reducible skip); exact HO_757001.out) (Kd.R_base ho0) hb)
       have HO773 := Aside0.mk (Kd.R_lower (Kd.R_new' ho1 (Kd.R_lt (by (with_reducible skip); exact HO_757002.out))) (below_size (by repeat ((with_reducible exact HB.out)))))
       replace HO_757002 := Aside0.mk (Kd.R_elder' (by (with_reducible skip); exact HO_757002.out) (Kd.R_base ho1) hb)
       replace BK728 := Z.bb BK728 hb
       replace BK729 := Z.bb BK729 hb
       replace BK730 := Z.bb BK730 hb
       replace BK756 := Z.bb BK756 hb
       replace HB := Aside0.mk (below_step (by repeat ((with_reducible exact HB.out))) hb)
       (try clear hb)
       (try clear ho0)
       (try clear ho1)
       obtain ⟨Ao60, co60, eo60⟩ := Kd.R_slice HO770.out
       (subst eo60)
       obtain ⟨Ao61, co61, eo61⟩ := Kd.R_slice HO773.out
       (subst eo61)
       refine hK.out _ _ ⟨(blk_cell BK756.out 0).trans rfl, (blk_cell BK756.out 1).trans rfl, (blk_cell BK756.out 2).trans rfl, (blk_cell BK728.out 0).trans rfl, (blk_cell BK728.out 1).trans rfl, (blk_cell BK728.out 2).trans rfl⟩ (fun hHeld => ?_)
       clear hK K
       refine Z.nm ?_
       refine one_ (i := 3) (N := some 48) (Z.mb 5 15) rfl rfl (by kernel_rfl) (by decide) (fun K hK => ?_)
       refine goes_ Try.func24 (by kernel_rfl) rfl #[.agg #[.int .i64 t749, .slice Ao46 t750.length co46, .slice Ao47 t753.length co47], .agg #[.int .i64 t767, .slice Ao60 t768.length co60, .slice Ao61 t771.length co61]] (by rfl) rfl rfl Z.ar ?_
       with_reducible refine (laws_eqCharter.calls kj26 t749 _ _ t750 _ _ t753 t767 _ _ t768 _ _ t771 t774 _ ?q1 ?q2 ?q3 ?q4 ?q5 ?q6 ?q7 ?q8 A56.out).mono ?_
       (case q1 => repeat (exact (Kd.R_reads' HO_757001.out).2.2))
       (case q2 => exact (Kd.R_reads' HO_757001.out).2.1)
       (case q3 => repeat (exact (Kd.R_reads' HO_757002.out).2.2))
       (case q4 => exact (Kd.R_reads' HO_757002.out).2.1)
       (case q5 => repeat (exact (Kd.R_reads' HO770.out).2.2))
       (case q6 => exact (Kd.R_reads' HO770.out).2.1)
       (case q7 => repeat (exact (Kd.R_reads' HO773.out).2.2))
       (case q8 => exact (Kd.R_reads' HO773.out).2.1)
       rintro e w62 ⟨rfl, hb⟩
       refine ⟨_, rfl, ?_⟩
       replace HO_12 := Aside0.mk (Kd.R_below (by (with_reducible skip); exact HO_12.out) hb)
       replace HO_757001 := Aside0.mk (Kd.R_below (by (with_reducible skip); exact HO_757001.out) hb)
       replace HO_757002 := Aside0.mk (Kd.R_below (by (with_reducible skip); exact HO_757002.out) hb)
       replace HO770 := Aside0.mk (Kd.R_below (by (with_reducible skip); exact HO770.out) hb)
       replace HO773 := Aside0.mk (Kd.R_below (by (with_reducible skip); exact HO773.out) hb)
       replace BK728 := Z.bb BK728 hb
       replace BK729 := Z.bb BK729 hb
       replace BK730 := Z.bb BK730 hb
       replace BK756 := Z.bb BK756 hb
       replace HB := Aside0.mk (below_step (by repeat ((with_reducible exact HB.out))) hb)
       (try clear hb)
       refine hK.out _ _ ⟨(blk_cell BK756.out 0).trans rfl, (blk_cell BK756.out 1).trans rfl, (blk_cell BK756.out 2).trans rfl, (blk_cell BK728.out 0).trans rfl, (blk_cell BK728.out 1).trans rfl, (blk_cell BK728.out 2).trans rfl⟩ (fun hHeld => ?_)
       clear hK K
       refine Z.nm ?_
       refine pure_ (i := 4) (N := some 49) (v := ?_) (a' := ?_) #[true, true, true, true, true] rfl rfl (by kernel_rfl) (fun _ _ _ h => h) (Or.inl ⟨by rfl, ?_⟩) ?_ ?_
       rotate_left
       ·intro w'
        go_simp
        with_reducible rfl
       rotate_left
       ·simp only [Act.put, List.setIfInBounds_toArray, List.set_cons_zero, List.set_cons_succ, i64_w, i32_w]
        rfl
       refine done_ (by kernel_rfl) ?_
       go_upto_if 49 with (fail)
       go_cut [] (fun wc => ∃ (kq : Nat), Aside0 (laws_FnExactEitherOrder.j3 kq l1 t757 = some r) ∧ Aside0 (kq ≤ kj26) ∧ Aside0 (Kd.R (Kd.int .i64) 3 wc w.heap.size (fun k_ => some k_ ≠ ((.slice Ao46 t750.length co46) : Value).ownBlock) (.slice Ao52 t757.length co52) t757) ∧ Aside0 (Kd.R (Kd.int .i64) 3 wc w.heap.size (fun k_ => some k_ ≠ ((.slice Ao52 t757.length co52) : Value).ownBlock) (.slice Ao46 t750.length co46) t750) ∧ Aside0 (Kd.R (Kd.slice 86 k86) 83 wc w.heap.size (fun _ => True) (.slice Ao47 t753.length co47) t753) ∧ Aside0 (wc.heap[gb728]? = some (.cells #[.int .i64 a0_0, (.slice A0_1 l0_1.length c0_1), (.slice A0_2 l0_2.length c0_2)] 27 (0, 0))) ∧ Aside0 (wc.heap[gb729]? = some (.cells #[.int .i64 a2_0, .int .i64 a2_1, .int .i64 a2_2] 51 (0, 0))) ∧ Aside0 (wc.heap[gb730]? = some (.cells #[.int .i64 a3_0, .int .i64 a3_1, .int .i64 a3_2] 51 (0, 0))) ∧ Aside0 (wc.heap[gb756]? = some (.cells #[.int .i64 t749, (.slice Ao46 t750.length co46), (.slice Ao47 t753.length co47)] 35 (0, 0))) ∧ Aside0 (Below w.heap.size w wc))
       case first =>
        have H := HC57.out
        clear HC57
        by_cases c63 : t774 = true
        ·subst c63
         rw [if_pos rfl] at H
         have H' := Aside0.mk H
         clear H
         go_wp2
         go_meet
         case rel => exact ⟨_, H', ⟨by have := HJ4.out; have := HJ10.out; have := HJ26.out; omega⟩, ⟨by (with_reducible skip); exact Kd.R_mono HO_12.out (fun _ hk => hk.1)⟩, ⟨by (with_reducible skip); exact Kd.R_mono HO_757001.out (fun _ hk => hk.1)⟩, ⟨by (with_reducible skip); exact Kd.R_mono HO_757002.out (fun _ hk => trivial)⟩, ⟨by (with_reducible skip); exact BK728.out⟩, ⟨by (with_reducible skip); exact BK729.out⟩, ⟨by (with_reducible skip); exact BK730.out⟩, ⟨by (with_reducible skip); exact BK756.out⟩, ⟨by repeat ((with_reducible exact HB.out))⟩⟩
        ·replace c63 := Bool.eq_false_iff.mpr c63
         subst c63
         rw [if_neg (show ¬ (false = true) by decide)] at H
         obtain rfl := Option.some.inj H
         go_wp2
         go_ret
         exact ⟨by rfl, by repeat ((with_reducible exact HB.out))⟩
       case rest =>
        clear HC57
        obtain ⟨kq, HA, HJ56, HO_12, HO_757001, HO_757002, BK728, BK729, BK730, BK756, HB⟩ := hcut
        cases kq with
        | zero => exact absurd HA.out (by simp [laws_FnExactEitherOrder.j3])
        | succ kj56 =>
         have H := HA.out
         clear HA
         simp only [laws_FnExactEitherOrder.j3] at H
         replace H := Option.bind_eq_some_iff.mp H
         obtain ⟨t775, A640, H⟩ := H
         have A64 := Aside0.mk A640
         clear A640
         replace H := Option.bind_eq_some_iff.mp H
         obtain ⟨t778, A650, H⟩ := H
         have A65 := Aside0.mk A650
         clear A650
         by_cases c66 : t778 = true
         ·subst c66
          rw [if_pos rfl] at H
          obtain rfl := Option.some.inj H
          go_wp2_with (first | ((with_reducible refine gate_callee (f := 21) rfl ?_); refine goesL_ (some 52) rfl rfl Try.func21 (by kernel_rfl) rfl #[.slice A1 l1.length c1] rfl Z.ar ?_; (with_reducible refine (laws_toIntS.calls kj56 _ _ l1 t775 _ ?q1 ?q2 A64.out).mono ?_); (case q1 => exact Z.cc HR1 HB); (case q2 => exact HC1.out); rintro e w67 ⟨v776, rfl, ho0, hb⟩; refine ⟨_, rfl, ?_⟩; replace HO_757002 := Aside0.mk (Kd.R_below (by (with_reducible skip); exact HO_757002.out) hb); have HO777 := Aside0.mk (Kd.R_lower (Kd.R_new' (Kd.R_new' ho0 (Kd.R_lt (by (with_reducible skip); exact HO_12.out))) (Kd.R_lt (by (with_reducible skip); exact HO_757001.out))) (below_size (by repeat ((with_reducible exact HB.out))))); replace HO_12 := Aside0.mk (Kd.R_elder' (by (with_reducible skip); exact HO_12.out) (Kd.R_base ho0) hb); replace HO_757001 := Aside0.mk (Kd.R_elder' (by (with_reducible skip); exact HO_757001.out) (Kd.R_base ho0) hb); replace BK728 := Z.bb BK728 hb; replace BK729 := Z.bb BK729 hb; replace BK730 := Z.bb BK730 hb; replace BK756 := Z.bb BK756 hb; replace HB := Aside0.mk (below_step (by repeat ((with_reducible exact HB.out))) hb); (try clear hb); (try clear ho0); obtain ⟨Ao68, co68, eo68⟩ := Kd.R_slice HO777.out; subst eo68) | ((with_reducible refine gate_callee (f := 25) rfl ?_); refine goesL_ (some 53) rfl rfl Try.func25 (by kernel_rfl) rfl #[.slice Ao52 t757.length co52, .slice Ao68 t775.length co68] rfl Z.ar ?_; (with_reducible refine (laws_eqIntS.calls kj56 _ _ t757 _ _ t775 true _ ?q1 ?q2 ?q3 ?q4 A65.out).mono ?_); (case q1 => repeat (exact (Kd.R_reads' HO_12.out).2.2)); (case q2 => exact (Kd.R_reads' HO_12.out).2.1); (case q3 => repeat (exact (Kd.R_reads' HO777.out).2.2)); (case q4 => exact (Kd.R_reads' HO777.out).2.1); rintro e w' ⟨rfl, ⟨nd, rfl⟩⟩; refine ⟨_, rfl, ?_⟩))
          go_ret
          exact ⟨by rfl, by repeat ((with_reducible first | exact HB.out | apply pw_below_drewN))⟩
         ·replace c66 := Bool.eq_false_iff.mpr c66
          subst c66
          rw [if_neg (show ¬ (false = true) by decide)] at H
          obtain rfl := Option.some.inj H
          go_wp2_with (first | ((with_reducible refine gate_callee (f := 21) rfl ?_); refine goesL_ (some 52) rfl rfl Try.func21 (by kernel_rfl) rfl #[.slice A1 l1.length c1] rfl Z.ar ?_; (with_reducible refine (laws_toIntS.calls kj56 _ _ l1 t775 _ ?q1 ?q2 A64.out).mono ?_); (case q1 => exact Z.cc HR1 HB); (case q2 => exact HC1.out); rintro e w69 ⟨v776, rfl, ho0, hb⟩; refine ⟨_, rfl, ?_⟩; replace HO_757002 := Aside0.mk (Kd.R_below (by (with_reducible skip); exact HO_757002.out) hb); have HO777 := Aside0.mk (Kd.R_lower (Kd.R_new' (Kd.R_new' ho0 (Kd.R_lt (by (with_reducible skip); exact HO_12.out))) (Kd.R_lt (by (with_reducible skip); exact HO_757001.out))) (below_size (by repeat ((with_reducible exact HB.out))))); replace HO_12 := Aside0.mk (Kd.R_elder' (by (with_reducible skip); exact HO_12.out) (Kd.R_base ho0) hb); replace HO_757001 := Aside0.mk (Kd.R_elder' (by (with_reducible skip); exact HO_757001.out) (Kd.R_base ho0) hb); replace BK728 := Z.bb BK728 hb; replace BK729 := Z.bb BK729 hb; replace BK730 := Z.bb BK730 hb; replace BK756 := Z.bb BK756 hb; replace HB := Aside0.mk (below_step (by repeat ((with_reducible exact HB.out))) hb); (try clear hb); (try clear ho0); obtain ⟨Ao70, co70, eo70⟩ := Kd.R_slice HO777.out; subst eo70) | ((with_reducible refine gate_callee (f := 25) rfl ?_); refine goesL_ (some 53) rfl rfl Try.func25 (by kernel_rfl) rfl #[.slice Ao52 t757.length co52, .slice Ao70 t775.length co70] rfl Z.ar ?_; (with_reducible refine (laws_eqIntS.calls kj56 _ _ t757 _ _ t775 false _ ?q1 ?q2 ?q3 ?q4 A65.out).mono ?_); (case q1 => repeat (exact (Kd.R_reads' HO_12.out).2.2)); (case q2 => exact (Kd.R_reads' HO_12.out).2.1); (case q3 => repeat (exact (Kd.R_reads' HO777.out).2.2)); (case q4 => exact (Kd.R_reads' HO777.out).2.1); rintro e w' ⟨rfl, ⟨nd, rfl⟩⟩; refine ⟨_, rfl, ?_⟩))
          go_ret
          exact ⟨by rfl, by repeat ((with_reducible first | exact HB.out | apply pw_below_drewN))⟩

end Go.Proofs.Ytcafckapdgaogaa.PAll

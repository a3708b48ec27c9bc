/- Walks of functions that some laws of this seat reach, in the form of the print. -/
import Derived.Test.YtcafckapdgaogaaCAll0
import Derived.Test.YtcafckapdgaogaaCAll1
import Derived.Test.YtcafckapdgaogaaCAll2
import Derived.Test.YtcafckapdgaogaaCAll10
import Derived.Test.YtcafckapdgaogaaCAll19
import Derived.Test.YtcafckapdgaogaaCAll26
import Derived.Test.YtcafckapdgaogaaCAll51
import Derived.Test.YtcafckapdgaogaaZ
import Derived.Test.YtcafckapdgaogaaV2
-- PRINTED
namespace Go.Proofs.Ytcafckapdgaogaa.PAll
open Go.RowKit Go.Proofs.YtcafckapdgaogaaW.PrintWords Go.Proofs.YtcafckapdgaogaaW.PrintLast Go.Proofs.YtcafckapdgaogaaW.PrintMore
attribute [local go_sem] max2_int min2_int max_two min_two max_three min_three max_four min_four
set_option linter.unusedVariables false
set_option linter.unusedSimpArgs false


/-! ### laws_FnExactApartOk: function 6 -/
mutual
def laws_FnExactApartOk.j0 : Nat → Int → List Int → List (List (S128)) → Int → Int → Int → Int → Int → Int → Option (Bool)
 | 0, _, _, _, _, _, _, _, _, _ => none
 | k + 1, x709000, x709001, x709002, x710000, x710001, x710002, x711000, x711001, x711002 => (laws_toCharter.f k x709000 x709001 x709002).bind fun bt712 => ((laws_toAct.f x710000 x710001 x710002).bind fun bt719 => ((laws_toAct.f x711000 x711001 x711002).bind fun bt722 => ((spec_ApartOk.f k bt712.1 bt712.2.1 bt712.2.2 bt719.1 bt719.2.1 bt719.2.2 bt722.1 bt722.2.1 bt722.2.2).bind fun t725 => ((laws_toCharter.f k x709000 x709001 x709002).bind fun bt726 => ((laws_toAct.f x710000 x710001 x710002).bind fun bt734 => ((laws_toAct.f x711000 x711001 x711002).bind fun bt737 => ((impl_ApartOk.f k bt726.1 bt726.2.1 bt726.2.2 bt734.1 bt734.2.1 bt734.2.2 bt737.1 bt737.2.1 bt737.2.2).bind fun t740 => (if (t740 != t725) = true then (some false) else (laws_FnExactApartOk.j1 k x709000 x709001 x709002 bt726.1 bt726.2.1 bt726.2.2)))))))))
def laws_FnExactApartOk.j1 : Nat → Int → List Int → List (List (S128)) → Int → List Int → List (List (S86)) → Option (Bool)
 | 0, _, _, _, _, _, _ => none
 | k + 1, x709000, x709001, x709002, x734000, x734001, x734002 => (laws_toCharter.f k x709000 x709001 x709002).bind fun bt741 => ((laws_eqCharter.f k x734000 x734001 x734002 bt741.1 bt741.2.1 bt741.2.2).bind fun t748 => (if t748 = true then (some true) else (some false)))
end
def laws_FnExactApartOk.f (k : Nat) (a0_0 : Int) (l0_1 : List Int) (l0_2 : List (List (S128))) (a1_0 : Int) (a1_1 : Int) (a1_2 : Int) (a2_0 : Int) (a2_1 : Int) (a2_2 : Int) : Option (Bool) := (laws_szCharter.f k a0_0 l0_1 l0_2 1048576).bind fun t711 => (if t711 < 0 then (some true) else (laws_FnExactApartOk.j0 k a0_0 l0_1 l0_2 a1_0 a1_1 a1_2 a2_0 a2_1 a2_2))
def laws_FnExactApartOk.T5 : Bool × List (List Nat × List Nat) := (true, [([], []), ([0], [0]), ([], []), ([2, 1], [2]), ([], []), ([4, 3], [4]), ([1, 3, 5, 5], [1, 3, 5]), ([6, 6, 0, 1, 2, 3, 4, 5, 6], [6])])
def laws_FnExactApartOk.B5 : List Nat := [0, 1, 0, 7, 0, 31, 63, 127]
theorem laws_FnExactApartOk.tab5 : rtab .any (opsOf Try.f6 5) = laws_FnExactApartOk.T5 := by kernel_rfl
theorem laws_FnExactApartOk.bits5 : waitsOk laws_FnExactApartOk.T5.2 laws_FnExactApartOk.B5 = true := by kernel_rfl
set_option maxHeartbeats 8000000 in
set_option maxRecDepth 100000 in
theorem laws_FnExactApartOk.calls (k : Nat) (a0_0 : Int) (A0_1 : Option Addr) (c0_1 : Nat) (l0_1 : List Int) (A0_2 : Option Addr) (c0_2 : Nat) (l0_2 : List (List (S128))) (a1_0 : Int) (a1_1 : Int) (a1_2 : Int) (a2_0 : Int) (a2_1 : Int) (a2_2 : Int) (r : Bool) (w : World) (hr0_1 : Kd.C (Kd.int .i64) w A0_1 l0_1.length l0_1) (hc0_1 : l0_1.length ≤ c0_1) (hr0_2 : Kd.C (Kd.slice 128 k128) w A0_2 l0_2.length l0_2) (hc0_2 : l0_2.length ≤ c0_2) (h : laws_FnExactApartOk.f k a0_0 l0_1 l0_2 a1_0 a1_1 a1_2 a2_0 a2_1 a2_2 = some r) :
  Calls Try.prog 6 #[.agg #[.int .i64 a0_0, .slice A0_1 l0_1.length c0_1, .slice A0_2 l0_2.length c0_2], .agg #[.int .i64 a1_0, .int .i64 a1_1, .int .i64 a1_2], .agg #[.int .i64 a2_0, .int .i64 a2_1, .int .i64 a2_2]] w fun e w' => e = .returned (.bool r) ∧ Below w.heap.size w w' := by
 have hu27 := Try.underlying27
 have hu51 := Try.underlying51
 have hu35 := Try.underlying35
 have HR0_1 := Aside0.mk hr0_1
 have HC0_1 := Aside0.mk hc0_1
 clear hr0_1 hc0_1
 have HR0_2 := Aside0.mk hr0_2
 have HC0_2 := Aside0.mk hc0_2
 clear hr0_2 hc0_2
 have HB := Aside0.mk (Below.refl w.heap.size w)
 have H := h
 clear h
 unfold laws_FnExactApartOk.f at H
 replace H := Option.bind_eq_some_iff.mp H
 obtain ⟨t711, A40, H⟩ := H
 try dsimp only at H
 have A4 := Aside0.mk A40
 clear A40
 have HC5 := Aside0.mk H
 clear H
 go_enter Try.func6, Try.ntmps6
 go_upto_if 15 with (first | ((with_reducible refine gate_dst (N := 3) rfl ?_); refine Z.bx #[.int .i64 a0_0, .slice A0_1 l0_1.length c0_1, .slice A0_2 l0_2.length c0_2] 27 HB ?_; clear HB; intro gb708 w6 BK708 GE708 HB hg hb; have GW708 := GE708; clear hb hg) | ((with_reducible refine gate_dst (N := 4) rfl ?_); refine Z.bz #[.int .i64 a1_0, .int .i64 a1_1, .int .i64 a1_2] 51 HB GE708 ?_; clear HB; intro gb709 w7 BK709 GE709 HB hg hb; have GW709 := GE709; have NB708_709 := Z.nl hg BK708; have NB709_708 := Z.ng hg BK708; replace BK708 := Z.bb BK708 hb; clear hb hg) | ((with_reducible refine gate_dst (N := 5) rfl ?_); refine box_event ?hg (N := 5) ?hd (cs := #[.int .i64 a2_0, .int .i64 a2_1, .int .i64 a2_2]) (t := 51) ?hr ?_; (case hd | hg => rfl); (case hr => first | (go_simp; done) | (go_simp; rfl)); intro gb710 hg w8 hbox hb; have BK710 := Aside0.mk (hbox); have GW710 := Aside0.mk ((by rw [hg]; exact (below_size (by repeat (first | (with_reducible first | exact HB.out | apply below_alloc | apply pw_below_drewN | apply below_drew1 | refine below_set ?_ GE708.out | refine below_set ?_ GE709.out) | exact HB.out))) : w.heap.size ≤ gb710)); have GE710 := Aside0.mk ((by rw [hg]; exact (below_size (by repeat (first | (with_reducible first | exact HB.out | apply below_alloc | apply pw_below_drewN | apply below_drew1 | refine below_set ?_ GE708.out | refine below_set ?_ GE709.out) | exact HB.out))) : w.heap.size ≤ gb710)); replace HB := Aside0.mk (below_step (by repeat (first | (with_reducible first | exact HB.out | apply below_alloc | apply pw_below_drewN | apply below_drew1 | refine below_set ?_ GE708.out | refine below_set ?_ GE709.out) | exact HB.out)) hb); have NB708_710 := Z.nl hg BK708; have NB710_708 := Z.ng hg BK708; replace BK708 := Z.bb BK708 hb; have NB709_710 := Z.nl hg BK709; have NB710_709 := Z.ng hg BK709; replace BK709 := Z.bb BK709 hb; clear hb hbox hg; have hnb9 := NB708_709.out; have hnc9 := NB709_708.out; have hnb10 := NB708_710.out; have hnc10 := NB710_708.out; have hcz11 := Z.c3 BK708.out) | ((with_reducible refine gate_callee (f := 17) rfl ?_); refine goesL_ (some 13) rfl rfl Try.func17 (by kernel_rfl) rfl #[.agg #[.int .i64 a0_0, .slice A0_1 l0_1.length c0_1, .slice A0_2 l0_2.length c0_2], .int .i64 1048576] rfl Z.ar ?_; (with_reducible refine (laws_szCharter.calls k a0_0 _ _ l0_1 _ _ l0_2 1048576 t711 _ ?q1 ?q2 ?q3 ?q4 A4.out).mono ?_); (case q1 => exact Z.cc HR0_1 HB); (case q2 => exact HC0_1.out); (case q3 => exact Z.cc HR0_2 HB); (case q4 => exact HC0_2.out); rintro e w12 ⟨rfl, hb⟩; refine ⟨_, rfl, ?_⟩; replace BK708 := Z.bb BK708 hb; replace BK709 := Z.bb BK709 hb; replace BK710 := Z.bb BK710 hb; replace HB := Aside0.mk (below_step (by repeat (first | (with_reducible first | exact HB.out | apply below_alloc | apply pw_below_drewN | apply below_drew1 | refine below_set ?_ GE708.out | refine below_set ?_ GE709.out | refine below_set ?_ GE710.out) | exact HB.out)) hb); (try clear hb); (try clear hb2); (try clear hk); (try clear hi)))
 (try simp only [Act.put, List.setIfInBounds_toArray, List.set_cons_zero, List.set_cons_succ])
 go_cut [] (fun wc => ∃ (kq : Nat), Aside0 (laws_FnExactApartOk.j0 kq a0_0 l0_1 l0_2 a1_0 a1_1 a1_2 a2_0 a2_1 a2_2 = some r) ∧ Aside0 (kq ≤ k) ∧ Aside0 (wc.heap[gb708]? = some (.cells #[.int .i64 a0_0, (.slice A0_1 l0_1.length c0_1), (.slice A0_2 l0_2.length c0_2)] 27 (0, 0))) ∧ Aside0 (wc.heap[gb709]? = some (.cells #[.int .i64 a1_0, .int .i64 a1_1, .int .i64 a1_2] 51 (0, 0))) ∧ Aside0 (wc.heap[gb710]? = some (.cells #[.int .i64 a2_0, .int .i64 a2_1, .int .i64 a2_2] 51 (0, 0))) ∧ Aside0 (Below w.heap.size w wc))
 case first =>
  have H := HC5.out
  clear HC5
  by_cases c13 : t711 < 0
  ·rw [if_pos c13] at H
   have c13b0 := decide_eq_true c13
   clear c13
   (first | rw [c13b0] | (simp only [i64_w, i32_w]; rw [c13b0]) | skip)
   obtain rfl := Option.some.inj H
   go_wp2
   go_ret
   exact ⟨by first | rfl | (simp [errW_none, errW_some] <;> rfl) | (simp [*, errW_none, errW_some] <;> rfl), by repeat (first | (with_reducible first | exact HB.out | apply below_alloc | apply pw_below_drewN | apply below_drew1 | refine below_set ?_ GE708.out | refine below_set ?_ GE709.out | refine below_set ?_ GE710.out) | exact HB.out)⟩
  ·rw [if_neg c13] at H
   have c13b0 := decide_eq_false c13
   clear c13
   (first | rw [c13b0] | (simp only [i64_w, i32_w]; rw [c13b0]) | skip)
   have H' := Aside0.mk H
   clear H
   go_wp2
   go_meet
   case rel => exact ⟨_, H', ⟨by first | omega | exact Nat.le_refl _⟩, ⟨by (with_reducible repeat (first | refine blk_drewN ?_ _ | refine blk_drew ?_ | refine blk_alloc ?_ _)); exact BK708.out⟩, ⟨by (with_reducible repeat (first | refine blk_drewN ?_ _ | refine blk_drew ?_ | refine blk_alloc ?_ _)); exact BK709.out⟩, ⟨by (with_reducible repeat (first | refine blk_drewN ?_ _ | refine blk_drew ?_ | refine blk_alloc ?_ _)); exact BK710.out⟩, ⟨by repeat (first | (with_reducible first | exact HB.out | apply below_alloc | apply pw_below_drewN | apply below_drew1 | refine below_set ?_ GE708.out | refine below_set ?_ GE709.out | refine below_set ?_ GE710.out) | exact HB.out)⟩⟩
 case rest =>
  clear HC5
  try clear c1
  try clear p2
  try clear c6
  try clear c9
  try clear c10
  try clear c13
  try clear c13b0
  try clear hcz11_0
  try clear hcz11_1
  try clear hcz11_2
  try clear hfz11_0
  try clear hfz11_1
  try clear hfz11_2
  obtain ⟨kq, HA, HJ4, BK708, BK709, BK710, HB⟩ := hcut
  cases kq with
  | zero => exact absurd HA.out (by simp [laws_FnExactApartOk.j0])
  | succ kj4 =>
   have H := HA.out
   clear HA
   simp only [laws_FnExactApartOk.j0] at H
   replace H := Option.bind_eq_some_iff.mp H
   obtain ⟨⟨t712, t713, t716⟩, A140, H⟩ := H
   try dsimp only at H
   have A14 := Aside0.mk A140
   clear A140
   replace H := Option.bind_eq_some_iff.mp H
   obtain ⟨⟨t719, t720, t721⟩, A150, H⟩ := H
   try dsimp only at H
   have A15 := Aside0.mk A150
   clear A150
   replace H := Option.bind_eq_some_iff.mp H
   obtain ⟨⟨t722, t723, t724⟩, A160, H⟩ := H
   try dsimp only at H
   have A16 := Aside0.mk A160
   clear A160
   replace H := Option.bind_eq_some_iff.mp H
   obtain ⟨t725, A170, H⟩ := H
   try dsimp only at H
   have A17 := Aside0.mk A170
   clear A170
   replace H := Option.bind_eq_some_iff.mp H
   obtain ⟨⟨t726, t727, t730⟩, A180, H⟩ := H
   try dsimp only at H
   have A18 := Aside0.mk A180
   clear A180
   replace H := Option.bind_eq_some_iff.mp H
   obtain ⟨⟨t734, t735, t736⟩, A190, H⟩ := H
   try dsimp only at H
   have A19 := Aside0.mk A190
   clear A190
   replace H := Option.bind_eq_some_iff.mp H
   obtain ⟨⟨t737, t738, t739⟩, A200, H⟩ := H
   try dsimp only at H
   have A20 := Aside0.mk A200
   clear A200
   replace H := Option.bind_eq_some_iff.mp H
   obtain ⟨t740, A210, H⟩ := H
   try dsimp only at H
   have A21 := Aside0.mk A210
   clear A210
   have HC22 := Aside0.mk H
   clear H
   try go_wp2
   replace BK708 := Aside0.mk (blk_drew BK708.out)
   replace BK709 := Aside0.mk (blk_drew BK709.out)
   replace BK710 := Aside0.mk (blk_drew BK710.out)
   replace HB := Aside0.mk (below_drew1 HB.out)
   refine start_ (n := 8) (S := fun w' => w'.cell? ⟨gb708, 0, none⟩ = some (.int .i64 a0_0) ∧ w'.cell? ⟨gb708, 1, none⟩ = some (.slice A0_1 l0_1.length c0_1) ∧ w'.cell? ⟨gb708, 2, none⟩ = some (.slice A0_2 l0_2.length c0_2) ∧ w'.cell? ⟨gb709, 0, none⟩ = some (.int .i64 a1_0) ∧ w'.cell? ⟨gb709, 1, none⟩ = some (.int .i64 a1_1) ∧ w'.cell? ⟨gb709, 2, none⟩ = some (.int .i64 a1_2) ∧ w'.cell? ⟨gb710, 0, none⟩ = some (.int .i64 a2_0) ∧ w'.cell? ⟨gb710, 1, none⟩ = some (.int .i64 a2_1) ∧ w'.cell? ⟨gb710, 2, none⟩ = some (.int .i64 a2_2)) (ds := []) #[false, false, false, false, false, false, false, false] (by kernel_rfl) rfl rfl ⟨(blk_cell BK708.out 0).trans rfl, (blk_cell BK708.out 1).trans rfl, (blk_cell BK708.out 2).trans rfl, (blk_cell BK709.out 0).trans rfl, (blk_cell BK709.out 1).trans rfl, (blk_cell BK709.out 2).trans rfl, (blk_cell BK710.out 0).trans rfl, (blk_cell BK710.out 1).trans rfl, (blk_cell BK710.out 2).trans rfl⟩ (fun hHeld => ?_); refine with_tabW laws_FnExactApartOk.tab5 laws_FnExactApartOk.bits5 (fun HT_ HW_ => ?_)
   generalize wc.drew = w23 at BK708 BK709 BK710 HB hHeld ⊢
   refine Z.t9 0 16 8 1 HT_.out HW_.out hHeld ?_
   refine Z.t9 2 18 8 5 HT_.out HW_.out hHeld ?_
   refine Z.t9 4 20 8 21 HT_.out HW_.out hHeld ?_
   refine one_ (i := 1) (N := some 17) (Z.mb 8 23) rfl rfl (one_of HT_.out (by kernel_rfl)) (by decide) (fun K hK => ?_)
   refine goes_ Try.func20 (by kernel_rfl) rfl #[.agg #[.int .i64 a0_0, .slice A0_1 l0_1.length c0_1, .slice A0_2 l0_2.length c0_2]] (by rfl) rfl rfl Z.ar ?_
   with_reducible refine (laws_toCharter.calls kj4 a0_0 _ _ l0_1 _ _ l0_2 t712 t713 t716 _ ?q1 ?q2 ?q3 ?q4 A14.out).mono ?_
   (case q1 => exact Z.cc HR0_1 HB)
   (case q2 => exact HC0_1.out)
   (case q3 => exact Z.cc HR0_2 HB)
   (case q4 => exact HC0_2.out)
   rintro e w24 ⟨v714, v717, rfl, ho0, ho1, hb⟩
   refine ⟨_, rfl, ?_⟩
   have HO715 := Aside0.mk (Kd.R_lower ho0 (below_size (by repeat (first | (with_reducible first | exact HB.out | apply below_alloc | apply pw_below_drewN | apply below_drew1 | refine below_set ?_ GE708.out | refine below_set ?_ GE709.out | refine below_set ?_ GE710.out) | exact HB.out))))
   have HO718 := Aside0.mk (Kd.R_lower ho1 (below_size (by repeat (first | (with_reducible first | exact HB.out | apply below_alloc | apply pw_below_drewN | apply below_drew1 | refine below_set ?_ GE708.out | refine below_set ?_ GE709.out | refine below_set ?_ GE710.out) | exact HB.out))))
   replace BK708 := Z.bb BK708 hb
   replace BK709 := Z.bb BK709 hb
   replace BK710 := Z.bb BK710 hb
   replace HB := Aside0.mk (below_step (by repeat (first | (with_reducible first | exact HB.out | apply below_alloc | apply pw_below_drewN | apply below_drew1 | refine below_set ?_ GE708.out | refine below_set ?_ GE709.out | refine below_set ?_ GE710.out) | exact HB.out)) hb)
   (try clear hb)
   (try clear hb2)
   (try clear hk)
   (try clear hi)
   (try clear ho0)
   (try clear ho1)
   refine hK.out _ _ ⟨(blk_cell BK708.out 0).trans rfl, (blk_cell BK708.out 1).trans rfl, (blk_cell BK708.out 2).trans rfl, (blk_cell BK709.out 0).trans rfl, (blk_cell BK709.out 1).trans rfl, (blk_cell BK709.out 2).trans rfl, (blk_cell BK710.out 0).trans rfl, (blk_cell BK710.out 1).trans rfl, (blk_cell BK710.out 2).trans rfl⟩ (fun hHeld => ?_)
   clear hK K
   refine Z.nm ?_
   refine one_ (i := 3) (N := some 19) (Z.mb 8 31) rfl rfl (one_of HT_.out (by kernel_rfl)) (by decide) (fun K hK => ?_)
   refine goes_ Try.func37 (by kernel_rfl) rfl #[.agg #[.int .i64 a1_0, .int .i64 a1_1, .int .i64 a1_2]] (by rfl) rfl rfl Z.ar ?_
   with_reducible refine (laws_toAct.calls a1_0 a1_1 a1_2 t719 t720 t721 _ A15.out).mono ?_
   rintro e w25 ⟨rfl, hb⟩
   refine ⟨_, rfl, ?_⟩
   replace HO715 := Aside0.mk (Kd.R_below (by (with_reducible repeat (first | apply Kd.R_alloc | apply Kd.R_drewN | apply Kd.R_drew)); exact HO715.out) hb)
   replace HO718 := Aside0.mk (Kd.R_below (by (with_reducible repeat (first | apply Kd.R_alloc | apply Kd.R_drewN | apply Kd.R_drew)); exact HO718.out) hb)
   replace BK708 := Z.bb BK708 hb
   replace BK709 := Z.bb BK709 hb
   replace BK710 := Z.bb BK710 hb
   replace HB := Aside0.mk (below_step (by repeat (first | (with_reducible first | exact HB.out | apply below_alloc | apply pw_below_drewN | apply below_drew1 | refine below_set ?_ GE708.out | refine below_set ?_ GE709.out | refine below_set ?_ GE710.out) | exact HB.out)) hb)
   (try clear hb)
   (try clear hb2)
   (try clear hk)
   (try clear hi)
   refine hK.out _ _ ⟨(blk_cell BK708.out 0).trans rfl, (blk_cell BK708.out 1).trans rfl, (blk_cell BK708.out 2).trans rfl, (blk_cell BK709.out 0).trans rfl, (blk_cell BK709.out 1).trans rfl, (blk_cell BK709.out 2).trans rfl, (blk_cell BK710.out 0).trans rfl, (blk_cell BK710.out 1).trans rfl, (blk_cell BK710.out 2).trans rfl⟩ (fun hHeld => ?_)
   clear hK K
   refine Z.nm ?_
   refine one_ (i := 5) (N := some 21) (Z.mb 8 63) rfl rfl (one_of HT_.out (by kernel_rfl)) (by decide) (fun K hK => ?_)
   refine goes_ Try.func37 (by kernel_rfl) rfl #[.agg #[.int .i64 a2_0, .int .i64 a2_1, .int .i64 a2_2]] (by rfl) rfl rfl Z.ar ?_
   with_reducible refine (laws_toAct.calls a2_0 a2_1 a2_2 t722 t723 t724 _ A16.out).mono ?_
   rintro e w26 ⟨rfl, hb⟩
   refine ⟨_, rfl, ?_⟩
   replace HO715 := Aside0.mk (Kd.R_below (by (with_reducible repeat (first | apply Kd.R_alloc | apply Kd.R_drewN | apply Kd.R_drew)); exact HO715.out) hb)
   replace HO718 := Aside0.mk (Kd.R_below (by (with_reducible repeat (first | apply Kd.R_alloc | apply Kd.R_drewN | apply Kd.R_drew)); exact HO718.out) hb)
   replace BK708 := Z.bb BK708 hb
   replace BK709 := Z.bb BK709 hb
   replace BK710 := Z.bb BK710 hb
   replace HB := Aside0.mk (below_step (by repeat (first | (with_reducible first | exact HB.out | apply below_alloc | apply pw_below_drewN | apply below_drew1 | refine below_set ?_ GE708.out | refine below_set ?_ GE709.out | refine below_set ?_ GE710.out) | exact HB.out)) hb)
   (try clear hb)
   (try clear hb2)
   (try clear hk)
   (try clear hi)
   obtain ⟨Ao27, co27, eo27⟩ := Kd.R_slice HO715.out
   (first | subst eo27 | (injection eo27 with f1_ f2_ f3_; have f4_ := f1_.symm; have f5_ := f3_.symm; clear f1_ f2_ f3_; subst f4_; subst f5_))
   obtain ⟨Ao28, co28, eo28⟩ := Kd.R_slice HO718.out
   (first | subst eo28 | (injection eo28 with f1_ f2_ f3_; have f4_ := f1_.symm; have f5_ := f3_.symm; clear f1_ f2_ f3_; subst f4_; subst f5_))
   refine hK.out _ _ ⟨(blk_cell BK708.out 0).trans rfl, (blk_cell BK708.out 1).trans rfl, (blk_cell BK708.out 2).trans rfl, (blk_cell BK709.out 0).trans rfl, (blk_cell BK709.out 1).trans rfl, (blk_cell BK709.out 2).trans rfl, (blk_cell BK710.out 0).trans rfl, (blk_cell BK710.out 1).trans rfl, (blk_cell BK710.out 2).trans rfl⟩ (fun hHeld => ?_)
   clear hK K
   refine Z.nm ?_
   refine one_ (i := 6) (N := some 22) (Z.mb 8 127) rfl rfl (one_of HT_.out (by kernel_rfl)) (by decide) (fun K hK => ?_)
   refine goes_ Try.func36 (by kernel_rfl) rfl #[.agg #[.int .i64 t712, .slice Ao27 t713.length co27, .slice Ao28 t716.length co28], .agg #[.int .i64 t719, .int .i64 t720, .int .i64 t721], .agg #[.int .i64 t722, .int .i64 t723, .int .i64 t724]] (by rfl) rfl rfl Z.ar ?_
   with_reducible refine (spec_ApartOk.calls kj4 t712 _ _ t713 _ _ t716 t719 t720 t721 t722 t723 t724 t725 _ ?q1 ?q2 ?q3 ?q4 A17.out).mono ?_
   (case q1 => repeat (first | exact (Kd.R_reads' HO715.out).2.2 | (with_reducible refine Kd.C_alloc ?_ _) | (with_reducible refine Kd.C_drewN ?_ _) | (with_reducible refine Kd.C_drew ?_)))
   (case q2 => exact (Kd.R_reads' HO715.out).2.1)
   (case q3 => repeat (first | exact (Kd.R_reads' HO718.out).2.2 | (with_reducible refine Kd.C_alloc ?_ _) | (with_reducible refine Kd.C_drewN ?_ _) | (with_reducible refine Kd.C_drew ?_)))
   (case q4 => exact (Kd.R_reads' HO718.out).2.1)
   rintro e w29 ⟨rfl, hb⟩
   refine ⟨_, rfl, ?_⟩
   replace HO715 := Aside0.mk (Kd.R_below (by (with_reducible repeat (first | apply Kd.R_alloc | apply Kd.R_drewN | apply Kd.R_drew)); exact HO715.out) hb)
   replace HO718 := Aside0.mk (Kd.R_below (by (with_reducible repeat (first | apply Kd.R_alloc | apply Kd.R_drewN | apply Kd.R_drew)); exact HO718.out) hb)
   replace BK708 := Z.bb BK708 hb
   replace BK709 := Z.bb BK709 hb
   replace BK710 := Z.bb BK710 hb
   replace HB := Aside0.mk (below_step (by repeat (first | (with_reducible first | exact HB.out | apply below_alloc | apply pw_below_drewN | apply below_drew1 | refine below_set ?_ GE708.out | refine below_set ?_ GE709.out | refine below_set ?_ GE710.out) | exact HB.out)) hb)
   (try clear hb)
   (try clear hb2)
   (try clear hk)
   (try clear hi)
   refine hK.out _ _ ⟨(blk_cell BK708.out 0).trans rfl, (blk_cell BK708.out 1).trans rfl, (blk_cell BK708.out 2).trans rfl, (blk_cell BK709.out 0).trans rfl, (blk_cell BK709.out 1).trans rfl, (blk_cell BK709.out 2).trans rfl, (blk_cell BK710.out 0).trans rfl, (blk_cell BK710.out 1).trans rfl, (blk_cell BK710.out 2).trans rfl⟩ (fun hHeld => ?_)
   clear hK K
   refine Z.nm ?_
   refine Z.pv 7 8 8 255 HT_.out ?_
   refine done_ (done_of HT_.out (by kernel_rfl)) ?_
   have hnb30 := NB708_709.out
   have hnc30 := NB709_708.out
   have hnb31 := NB708_710.out
   have hnc31 := NB710_708.out
   have hcz32 := Z.c3 BK708.out
   try go_wp2_with (first | ((with_reducible refine gate_callee (f := 20) rfl ?_); refine goesL_ (some 24) rfl rfl Try.func20 (by kernel_rfl) rfl #[.agg #[.int .i64 a0_0, .slice A0_1 l0_1.length c0_1, .slice A0_2 l0_2.length c0_2]] rfl Z.ar ?_; (with_reducible refine (laws_toCharter.calls kj4 a0_0 _ _ l0_1 _ _ l0_2 t726 t727 t730 _ ?q1 ?q2 ?q3 ?q4 A18.out).mono ?_); (case q1 => exact Z.cc HR0_1 HB); (case q2 => exact HC0_1.out); (case q3 => exact Z.cc HR0_2 HB); (case q4 => exact HC0_2.out); rintro e w33 ⟨v728, v731, rfl, ho0, ho1, hb⟩; refine ⟨_, rfl, ?_⟩; have HO729 := Aside0.mk (Kd.R_lower (Kd.R_new' ho0 (Kd.R_lt (by (with_reducible repeat (first | apply Kd.R_alloc | apply Kd.R_drewN | apply Kd.R_drew)); exact HO715.out))) (below_size (by repeat (first | (with_reducible first | exact HB.out | apply below_alloc | apply pw_below_drewN | apply below_drew1 | refine below_set ?_ GE708.out | refine below_set ?_ GE709.out | refine below_set ?_ GE710.out) | exact HB.out)))); replace HO715 := Aside0.mk (Kd.R_elder' (by (with_reducible repeat (first | apply Kd.R_alloc | apply Kd.R_drewN | apply Kd.R_drew)); exact HO715.out) (Kd.R_base ho0) hb); have HO732 := Aside0.mk (Kd.R_lower (Kd.R_new' ho1 (Kd.R_lt (by (with_reducible repeat (first | apply Kd.R_alloc | apply Kd.R_drewN | apply Kd.R_drew)); exact HO718.out))) (below_size (by repeat (first | (with_reducible first | exact HB.out | apply below_alloc | apply pw_below_drewN | apply below_drew1 | refine below_set ?_ GE708.out | refine below_set ?_ GE709.out | refine below_set ?_ GE710.out) | exact HB.out)))); replace HO718 := Aside0.mk (Kd.R_elder' (by (with_reducible repeat (first | apply Kd.R_alloc | apply Kd.R_drewN | apply Kd.R_drew)); exact HO718.out) (Kd.R_base ho1) hb); replace BK708 := Z.bb BK708 hb; replace BK709 := Z.bb BK709 hb; replace BK710 := Z.bb BK710 hb; replace HB := Aside0.mk (below_step (by repeat (first | (with_reducible first | exact HB.out | apply below_alloc | apply pw_below_drewN | apply below_drew1 | refine below_set ?_ GE708.out | refine below_set ?_ GE709.out | refine below_set ?_ GE710.out) | exact HB.out)) hb); (try clear hb); (try clear hb2); (try clear hk); (try clear hi); (try clear ho0); (try clear ho1)) | ((with_reducible refine gate_dst (N := 9) rfl ?_); refine box_event ?hg (N := 9) ?hd (cs := #[.int .i64 0, .slice none 0 0, .slice none 0 0]) (t := 35) ?hr ?_; (case hd | hg => rfl); (case hr => first | (go_simp; done) | (go_simp; rfl)); intro gb733 hg w34 hbox hb; replace HO715 := Aside0.mk (Kd.R_below (by (with_reducible repeat (first | apply Kd.R_alloc | apply Kd.R_drewN | apply Kd.R_drew)); exact HO715.out) hb); replace HO718 := Aside0.mk (Kd.R_below (by (with_reducible repeat (first | apply Kd.R_alloc | apply Kd.R_drewN | apply Kd.R_drew)); exact HO718.out) hb); replace HO729 := Aside0.mk (Kd.R_below (by (with_reducible repeat (first | apply Kd.R_alloc | apply Kd.R_drewN | apply Kd.R_drew)); exact HO729.out) hb); replace HO732 := Aside0.mk (Kd.R_below (by (with_reducible repeat (first | apply Kd.R_alloc | apply Kd.R_drewN | apply Kd.R_drew)); exact HO732.out) hb); have BK733 := Aside0.mk (hbox); have GW733 := Aside0.mk ((by rw [hg]; exact (below_size (by repeat (first | (with_reducible first | exact HB.out | apply below_alloc | apply pw_below_drewN | apply below_drew1 | refine below_set ?_ GE708.out | refine below_set ?_ GE709.out | refine below_set ?_ GE710.out) | exact HB.out))) : w.heap.size ≤ gb733)); have GE733 := Aside0.mk ((by rw [hg]; exact (below_size (by repeat (first | (with_reducible first | exact HB.out | apply below_alloc | apply pw_below_drewN | apply below_drew1 | refine below_set ?_ GE708.out | refine below_set ?_ GE709.out | refine below_set ?_ GE710.out) | exact HB.out))) : w.heap.size ≤ gb733)); replace HB := Aside0.mk (below_step (by repeat (first | (with_reducible first | exact HB.out | apply below_alloc | apply pw_below_drewN | apply below_drew1 | refine below_set ?_ GE708.out | refine below_set ?_ GE709.out | refine below_set ?_ GE710.out) | exact HB.out)) hb); have NB708_733 := Z.nl hg BK708; have NB733_708 := Z.ng hg BK708; replace BK708 := Z.bb BK708 hb; have NB709_733 := Z.nl hg BK709; have NB733_709 := Z.ng hg BK709; replace BK709 := Z.bb BK709 hb; have NB710_733 := Z.nl hg BK710; have NB733_710 := Z.ng hg BK710; replace BK710 := Z.bb BK710 hb; clear hb hbox hg; have hnb35 := NB733_708.out; have hnc35 := NB708_733.out; have hnb36 := NB733_709.out; have hnc36 := NB709_733.out; have hnb37 := NB733_710.out; have hnc37 := NB710_733.out; have hcz38 := Z.c3 BK733.out; obtain ⟨Ao39, co39, eo39⟩ := Kd.R_slice HO729.out; subst eo39; obtain ⟨Ao40, co40, eo40⟩ := Kd.R_slice HO732.out; subst eo40))
   have n0_ : Aside0 (Kd.R (Kd.int .i64) 3 (((w34.setCell ⟨gb733, 0, none⟩ (.int .i64 t726)).setCell ⟨gb733, 1, none⟩ (.slice Ao39 t727.length co39)).setCell ⟨gb733, 2, none⟩ (.slice Ao40 t730.length co40)) w.heap.size (fun k_ => some k_ ≠ (.slice Ao39 t727.length co39 : Value).ownBlock) (.slice Ao27 t713.length co27) t713) := ⟨by (with_reducible repeat (first | apply Kd.R_alloc | apply Kd.R_drewN | apply Kd.R_drew)); exact Kd.R_mono (Kd.R_far (p := ⟨gb733, 2, none⟩) (Kd.R_far (p := ⟨gb733, 1, none⟩) (Kd.R_far (p := ⟨gb733, 0, none⟩) (Kd.R_types HO715.out BK733.out (by decide)) (fun _ hk => hk.2) (.int .i64 t726)) (fun _ hk => hk.2) (.slice Ao39 t727.length co39)) (fun _ hk => hk.2) (.slice Ao40 t730.length co40)) (fun _ hk => hk.1.2)⟩
   have n1_ : Aside0 (Kd.R (Kd.slice 86 k86) 83 (((w34.setCell ⟨gb733, 0, none⟩ (.int .i64 t726)).setCell ⟨gb733, 1, none⟩ (.slice Ao39 t727.length co39)).setCell ⟨gb733, 2, none⟩ (.slice Ao40 t730.length co40)) w.heap.size (fun k_ => some k_ ≠ (.slice Ao40 t730.length co40 : Value).ownBlock) (.slice Ao28 t716.length co28) t716) := ⟨by (with_reducible repeat (first | apply Kd.R_alloc | apply Kd.R_drewN | apply Kd.R_drew)); exact Kd.R_mono (Kd.R_far (p := ⟨gb733, 2, none⟩) (Kd.R_far (p := ⟨gb733, 1, none⟩) (Kd.R_far (p := ⟨gb733, 0, none⟩) (Kd.R_types HO718.out BK733.out (by decide)) (fun _ hk => hk.2) (.int .i64 t726)) (fun _ hk => hk.2) (.slice Ao39 t727.length co39)) (fun _ hk => hk.2) (.slice Ao40 t730.length co40)) (fun _ hk => hk.1.2)⟩
   have n2_ : Aside0 (Kd.R (Kd.int .i64) 3 (((w34.setCell ⟨gb733, 0, none⟩ (.int .i64 t726)).setCell ⟨gb733, 1, none⟩ (.slice Ao39 t727.length co39)).setCell ⟨gb733, 2, none⟩ (.slice Ao40 t730.length co40)) w.heap.size (fun k_ => some k_ ≠ (.slice Ao27 t713.length co27 : Value).ownBlock) (.slice Ao39 t727.length co39) t727) := ⟨by (with_reducible repeat (first | apply Kd.R_alloc | apply Kd.R_drewN | apply Kd.R_drew)); exact Kd.R_mono (Kd.R_far (p := ⟨gb733, 2, none⟩) (Kd.R_far (p := ⟨gb733, 1, none⟩) (Kd.R_far (p := ⟨gb733, 0, none⟩) (Kd.R_types HO729.out BK733.out (by decide)) (fun _ hk => hk.2) (.int .i64 t726)) (fun _ hk => hk.2) (.slice Ao39 t727.length co39)) (fun _ hk => hk.2) (.slice Ao40 t730.length co40)) (fun _ hk => hk.1.2)⟩
   have n3_ : Aside0 (Kd.R (Kd.slice 86 k86) 83 (((w34.setCell ⟨gb733, 0, none⟩ (.int .i64 t726)).setCell ⟨gb733, 1, none⟩ (.slice Ao39 t727.length co39)).setCell ⟨gb733, 2, none⟩ (.slice Ao40 t730.length co40)) w.heap.size (fun k_ => some k_ ≠ (.slice Ao28 t716.length co28 : Value).ownBlock) (.slice Ao40 t730.length co40) t730) := ⟨by (with_reducible repeat (first | apply Kd.R_alloc | apply Kd.R_drewN | apply Kd.R_drew)); exact Kd.R_mono (Kd.R_far (p := ⟨gb733, 2, none⟩) (Kd.R_far (p := ⟨gb733, 1, none⟩) (Kd.R_far (p := ⟨gb733, 0, none⟩) (Kd.R_types HO732.out BK733.out (by decide)) (fun _ hk => hk.2) (.int .i64 t726)) (fun _ hk => hk.2) (.slice Ao39 t727.length co39)) (fun _ hk => hk.2) (.slice Ao40 t730.length co40)) (fun _ hk => hk.1.2)⟩
   have n4_ : Aside0 ((((w34.setCell ⟨gb733, 0, none⟩ (.int .i64 t726)).setCell ⟨gb733, 1, none⟩ (.slice Ao39 t727.length co39)).setCell ⟨gb733, 2, none⟩ (.slice Ao40 t730.length co40)).heap[gb708]? = some (.cells #[.int .i64 a0_0, .slice A0_1 l0_1.length c0_1, .slice A0_2 l0_2.length c0_2] 27 (0, 0))) := ⟨by (with_reducible repeat (first | refine blk_drewN ?_ _ | refine blk_drew ?_ | refine blk_alloc ?_ _)); refine blk_far ?_ NB708_733.out _; (with_reducible repeat (first | refine blk_drewN ?_ _ | refine blk_drew ?_ | refine blk_alloc ?_ _)); refine blk_far ?_ NB708_733.out _; (with_reducible repeat (first | refine blk_drewN ?_ _ | refine blk_drew ?_ | refine blk_alloc ?_ _)); refine blk_far ?_ NB708_733.out _; (with_reducible repeat (first | refine blk_drewN ?_ _ | refine blk_drew ?_ | refine blk_alloc ?_ _)); exact BK708.out⟩
   have n5_ : Aside0 ((((w34.setCell ⟨gb733, 0, none⟩ (.int .i64 t726)).setCell ⟨gb733, 1, none⟩ (.slice Ao39 t727.length co39)).setCell ⟨gb733, 2, none⟩ (.slice Ao40 t730.length co40)).heap[gb709]? = some (.cells #[.int .i64 a1_0, .int .i64 a1_1, .int .i64 a1_2] 51 (0, 0))) := ⟨by (with_reducible repeat (first | refine blk_drewN ?_ _ | refine blk_drew ?_ | refine blk_alloc ?_ _)); refine blk_far ?_ NB709_733.out _; (with_reducible repeat (first | refine blk_drewN ?_ _ | refine blk_drew ?_ | refine blk_alloc ?_ _)); refine blk_far ?_ NB709_733.out _; (with_reducible repeat (first | refine blk_drewN ?_ _ | refine blk_drew ?_ | refine blk_alloc ?_ _)); refine blk_far ?_ NB709_733.out _; (with_reducible repeat (first | refine blk_drewN ?_ _ | refine blk_drew ?_ | refine blk_alloc ?_ _)); exact BK709.out⟩
   have n6_ : Aside0 ((((w34.setCell ⟨gb733, 0, none⟩ (.int .i64 t726)).setCell ⟨gb733, 1, none⟩ (.slice Ao39 t727.length co39)).setCell ⟨gb733, 2, none⟩ (.slice Ao40 t730.length co40)).heap[gb710]? = some (.cells #[.int .i64 a2_0, .int .i64 a2_1, .int .i64 a2_2] 51 (0, 0))) := ⟨by (with_reducible repeat (first | refine blk_drewN ?_ _ | refine blk_drew ?_ | refine blk_alloc ?_ _)); refine blk_far ?_ NB710_733.out _; (with_reducible repeat (first | refine blk_drewN ?_ _ | refine blk_drew ?_ | refine blk_alloc ?_ _)); refine blk_far ?_ NB710_733.out _; (with_reducible repeat (first | refine blk_drewN ?_ _ | refine blk_drew ?_ | refine blk_alloc ?_ _)); refine blk_far ?_ NB710_733.out _; (with_reducible repeat (first | refine blk_drewN ?_ _ | refine blk_drew ?_ | refine blk_alloc ?_ _)); exact BK710.out⟩
   have n7_ : Aside0 ((((w34.setCell ⟨gb733, 0, none⟩ (.int .i64 t726)).setCell ⟨gb733, 1, none⟩ (.slice Ao39 t727.length co39)).setCell ⟨gb733, 2, none⟩ (.slice Ao40 t730.length co40)).heap[gb733]? = some (.cells #[.int .i64 t726, .slice Ao39 t727.length co39, .slice Ao40 t730.length co40] 35 (0, 0))) := ⟨by (with_reducible repeat (first | refine blk_drewN ?_ _ | refine blk_drew ?_ | refine blk_alloc ?_ _)); refine blk_put (cs := #[.int .i64 t726, .slice Ao39 t727.length co39, .slice none 0 0]) ?_ 2 _ rfl; (with_reducible repeat (first | refine blk_drewN ?_ _ | refine blk_drew ?_ | refine blk_alloc ?_ _)); refine blk_put (cs := #[.int .i64 t726, .slice none 0 0, .slice none 0 0]) ?_ 1 _ rfl; (with_reducible repeat (first | refine blk_drewN ?_ _ | refine blk_drew ?_ | refine blk_alloc ?_ _)); refine blk_put (cs := #[.int .i64 0, .slice none 0 0, .slice none 0 0]) ?_ 0 _ rfl; (with_reducible repeat (first | refine blk_drewN ?_ _ | refine blk_drew ?_ | refine blk_alloc ?_ _)); exact BK733.out⟩
   have n8_ : Aside0 (Below w.heap.size w (((w34.setCell ⟨gb733, 0, none⟩ (.int .i64 t726)).setCell ⟨gb733, 1, none⟩ (.slice Ao39 t727.length co39)).setCell ⟨gb733, 2, none⟩ (.slice Ao40 t730.length co40))) := ⟨by repeat (first | (with_reducible first | exact HB.out | apply below_alloc | apply pw_below_drewN | apply below_drew1 | refine below_set ?_ GE708.out | refine below_set ?_ GE709.out | refine below_set ?_ GE710.out | refine below_set ?_ GE733.out) | exact HB.out)⟩
   (try clear HO715)
   (try clear HO718)
   (try clear HO729)
   (try clear HO732)
   (try clear BK708)
   (try clear BK709)
   (try clear BK710)
   (try clear BK733)
   (try clear HB)
   generalize (((w34.setCell ⟨gb733, 0, none⟩ (.int .i64 t726)).setCell ⟨gb733, 1, none⟩ (.slice Ao39 t727.length co39)).setCell ⟨gb733, 2, none⟩ (.slice Ao40 t730.length co40)) = w41 at n0_ n1_ n2_ n3_ n4_ n5_ n6_ n7_ n8_ ⊢
   have HO715 := n0_
   have HO718 := n1_
   have HO729 := n2_
   have HO732 := n3_
   have BK708 := n4_
   have BK709 := n5_
   have BK710 := n6_
   have BK733 := n7_
   have HB := n8_
   clear n0_ n1_ n2_ n3_ n4_ n5_ n6_ n7_ n8_
   replace HO715 := Aside0.mk (Kd.R_drew HO715.out)
   replace HO718 := Aside0.mk (Kd.R_drew HO718.out)
   replace HO729 := Aside0.mk (Kd.R_drew HO729.out)
   replace HO732 := Aside0.mk (Kd.R_drew HO732.out)
   replace BK708 := Aside0.mk (blk_drew BK708.out)
   replace BK709 := Aside0.mk (blk_drew BK709.out)
   replace BK710 := Aside0.mk (blk_drew BK710.out)
   replace BK733 := Aside0.mk (blk_drew BK733.out)
   replace HB := Aside0.mk (below_drew1 HB.out)
   refine start_ (n := 7) (S := fun w' => w'.cell? ⟨gb733, 0, none⟩ = some (.int .i64 t726) ∧ w'.cell? ⟨gb733, 1, none⟩ = some (.slice Ao39 t727.length co39) ∧ w'.cell? ⟨gb733, 2, none⟩ = some (.slice Ao40 t730.length co40) ∧ w'.cell? ⟨gb709, 0, none⟩ = some (.int .i64 a1_0) ∧ w'.cell? ⟨gb709, 1, none⟩ = some (.int .i64 a1_1) ∧ w'.cell? ⟨gb709, 2, none⟩ = some (.int .i64 a1_2) ∧ w'.cell? ⟨gb710, 0, none⟩ = some (.int .i64 a2_0) ∧ w'.cell? ⟨gb710, 1, none⟩ = some (.int .i64 a2_1) ∧ w'.cell? ⟨gb710, 2, none⟩ = some (.int .i64 a2_2)) (ds := []) #[false, false, false, false, false, false, false] (by kernel_rfl) rfl rfl ⟨(blk_cell BK733.out 0).trans rfl, (blk_cell BK733.out 1).trans rfl, (blk_cell BK733.out 2).trans rfl, (blk_cell BK709.out 0).trans rfl, (blk_cell BK709.out 1).trans rfl, (blk_cell BK709.out 2).trans rfl, (blk_cell BK710.out 0).trans rfl, (blk_cell BK710.out 1).trans rfl, (blk_cell BK710.out 2).trans rfl⟩ (fun hHeld => ?_)
   generalize w41.drew = w42 at HO715 HO718 HO729 HO732 BK708 BK709 BK710 BK733 HB hHeld ⊢
   refine take_ (i := 0) (N := some 25) (v := ?_) (a' := ?_) #[true, false, false, false, false, false, false] rfl rfl (by kernel_rfl) (fun _ _ _ h => h) (Or.inl ⟨by rfl, ?_⟩) hHeld ?_ ?_
   rotate_left
   ·rintro w' ⟨s0, s1, s2, s3, s4, s5, s6, s7, s8⟩
    go_simp
    with_reducible rfl
   rotate_left
   ·simp only [Act.put, List.setIfInBounds_toArray, List.set_cons_zero, List.set_cons_succ, i64_w, i32_w]
    rfl
   refine take_ (i := 1) (N := some 26) (v := ?_) (a' := ?_) #[true, true, false, false, false, false, false] rfl rfl (by kernel_rfl) (fun _ _ _ h => h) (Or.inl ⟨by rfl, ?_⟩) hHeld ?_ ?_
   rotate_left
   ·rintro w' ⟨s0, s1, s2, s3, s4, s5, s6, s7, s8⟩
    go_simp
    with_reducible rfl
   rotate_left
   ·simp only [Act.put, List.setIfInBounds_toArray, List.set_cons_zero, List.set_cons_succ, i64_w, i32_w]
    rfl
   refine take_ (i := 3) (N := some 28) (v := ?_) (a' := ?_) #[true, true, false, true, false, false, false] rfl rfl (by kernel_rfl) (fun _ _ _ h => h) (Or.inl ⟨by rfl, ?_⟩) hHeld ?_ ?_
   rotate_left
   ·rintro w' ⟨s0, s1, s2, s3, s4, s5, s6, s7, s8⟩
    go_simp
    with_reducible rfl
   rotate_left
   ·simp only [Act.put, List.setIfInBounds_toArray, List.set_cons_zero, List.set_cons_succ, i64_w, i32_w]
    rfl
   refine one_ (i := 2) (N := some 27) (Z.mb 7 15) rfl rfl (by kernel_rfl) (by decide) (fun K hK => ?_)
   refine goes_ Try.func37 (by kernel_rfl) rfl #[.agg #[.int .i64 a1_0, .int .i64 a1_1, .int .i64 a1_2]] (by rfl) rfl rfl Z.ar ?_
   with_reducible refine (laws_toAct.calls a1_0 a1_1 a1_2 t734 t735 t736 _ A19.out).mono ?_
   rintro e w43 ⟨rfl, hb⟩
   refine ⟨_, rfl, ?_⟩
   replace HO715 := Aside0.mk (Kd.R_below (by (with_reducible repeat (first | apply Kd.R_alloc | apply Kd.R_drewN | apply Kd.R_drew)); exact HO715.out) hb)
   replace HO718 := Aside0.mk (Kd.R_below (by (with_reducible repeat (first | apply Kd.R_alloc | apply Kd.R_drewN | apply Kd.R_drew)); exact HO718.out) hb)
   replace HO729 := Aside0.mk (Kd.R_below (by (with_reducible repeat (first | apply Kd.R_alloc | apply Kd.R_drewN | apply Kd.R_drew)); exact HO729.out) hb)
   replace HO732 := Aside0.mk (Kd.R_below (by (with_reducible repeat (first | apply Kd.R_alloc | apply Kd.R_drewN | apply Kd.R_drew)); exact HO732.out) hb)
   replace BK708 := Z.bb BK708 hb
   replace BK709 := Z.bb BK709 hb
   replace BK710 := Z.bb BK710 hb
   replace BK733 := Z.bb BK733 hb
   replace HB := Aside0.mk (below_step (by repeat (first | (with_reducible first | exact HB.out | apply below_alloc | apply pw_below_drewN | apply below_drew1 | refine below_set ?_ GE708.out | refine below_set ?_ GE709.out | refine below_set ?_ GE710.out | refine below_set ?_ GE733.out) | exact HB.out)) hb)
   (try clear hb)
   (try clear hb2)
   (try clear hk)
   (try clear hi)
   refine hK.out _ _ ⟨(blk_cell BK733.out 0).trans rfl, (blk_cell BK733.out 1).trans rfl, (blk_cell BK733.out 2).trans rfl, (blk_cell BK709.out 0).trans rfl, (blk_cell BK709.out 1).trans rfl, (blk_cell BK709.out 2).trans rfl, (blk_cell BK710.out 0).trans rfl, (blk_cell BK710.out 1).trans rfl, (blk_cell BK710.out 2).trans rfl⟩ (fun hHeld => ?_)
   clear hK K
   refine Z.nm ?_
   refine one_ (i := 4) (N := some 29) (Z.mb 7 31) rfl rfl (by kernel_rfl) (by decide) (fun K hK => ?_)
   refine goes_ Try.func37 (by kernel_rfl) rfl #[.agg #[.int .i64 a2_0, .int .i64 a2_1, .int .i64 a2_2]] (by rfl) rfl rfl Z.ar ?_
   with_reducible refine (laws_toAct.calls a2_0 a2_1 a2_2 t737 t738 t739 _ A20.out).mono ?_
   rintro e w44 ⟨rfl, hb⟩
   refine ⟨_, rfl, ?_⟩
   replace HO715 := Aside0.mk (Kd.R_below (by (with_reducible repeat (first | apply Kd.R_alloc | apply Kd.R_drewN | apply Kd.R_drew)); exact HO715.out) hb)
   replace HO718 := Aside0.mk (Kd.R_below (by (with_reducible repeat (first | apply Kd.R_alloc | apply Kd.R_drewN | apply Kd.R_drew)); exact HO718.out) hb)
   replace HO729 := Aside0.mk (Kd.R_below (by (with_reducible repeat (first | apply Kd.R_alloc | apply Kd.R_drewN | apply Kd.R_drew)); exact HO729.out) hb)
   replace HO732 := Aside0.mk (Kd.R_below (by (with_reducible repeat (first | apply Kd.R_alloc | apply Kd.R_drewN | apply Kd.R_drew)); exact HO732.out) hb)
   replace BK708 := Z.bb BK708 hb
   replace BK709 := Z.bb BK709 hb
   replace BK710 := Z.bb BK710 hb
   replace BK733 := Z.bb BK733 hb
   replace HB := Aside0.mk (below_step (by repeat (first | (with_reducible first | exact HB.out | apply below_alloc | apply pw_below_drewN | apply below_drew1 | refine below_set ?_ GE708.out | refine below_set ?_ GE709.out | refine below_set ?_ GE710.out | refine below_set ?_ GE733.out) | exact HB.out)) hb)
   (try clear hb)
   (try clear hb2)
   (try clear hk)
   (try clear hi)
   refine hK.out _ _ ⟨(blk_cell BK733.out 0).trans rfl, (blk_cell BK733.out 1).trans rfl, (blk_cell BK733.out 2).trans rfl, (blk_cell BK709.out 0).trans rfl, (blk_cell BK709.out 1).trans rfl, (blk_cell BK709.out 2).trans rfl, (blk_cell BK710.out 0).trans rfl, (blk_cell BK710.out 1).trans rfl, (blk_cell BK710.out 2).trans rfl⟩ (fun hHeld => ?_)
   clear hK K
   refine Z.nm ?_
   refine one_ (i := 5) (N := some 30) (Z.mb 7 63) rfl rfl (by kernel_rfl) (by decide) (fun K hK => ?_)
   refine goes_ Try.func38 (by kernel_rfl) rfl #[.agg #[.int .i64 t726, .slice Ao39 t727.length co39, .slice Ao40 t730.length co40], .agg #[.int .i64 t734, .int .i64 t735, .int .i64 t736], .agg #[.int .i64 t737, .int .i64 t738, .int .i64 t739]] (by rfl) rfl rfl Z.ar ?_
   with_reducible refine (impl_ApartOk.calls kj4 t726 _ _ t727 _ _ t730 t734 t735 t736 t737 t738 t739 t740 _ ?q1 ?q2 ?q3 ?q4 A21.out).mono ?_
   (case q1 => repeat (first | exact (Kd.R_reads' HO729.out).2.2 | (with_reducible refine Kd.C_alloc ?_ _) | (with_reducible refine Kd.C_drewN ?_ _) | (with_reducible refine Kd.C_drew ?_)))
   (case q2 => exact (Kd.R_reads' HO729.out).2.1)
   (case q3 => repeat (first | exact (Kd.R_reads' HO732.out).2.2 | (with_reducible refine Kd.C_alloc ?_ _) | (with_reducible refine Kd.C_drewN ?_ _) | (with_reducible refine Kd.C_drew ?_)))
   (case q4 => exact (Kd.R_reads' HO732.out).2.1)
   rintro e w45 ⟨rfl, hb⟩
   refine ⟨_, rfl, ?_⟩
   replace HO715 := Aside0.mk (Kd.R_below (by (with_reducible repeat (first | apply Kd.R_alloc | apply Kd.R_drewN | apply Kd.R_drew)); exact HO715.out) hb)
   replace HO718 := Aside0.mk (Kd.R_below (by (with_reducible repeat (first | apply Kd.R_alloc | apply Kd.R_drewN | apply Kd.R_drew)); exact HO718.out) hb)
   replace HO729 := Aside0.mk (Kd.R_below (by (with_reducible repeat (first | apply Kd.R_alloc | apply Kd.R_drewN | apply Kd.R_drew)); exact HO729.out) hb)
   replace HO732 := Aside0.mk (Kd.R_below (by (with_reducible repeat (first | apply Kd.R_alloc | apply Kd.R_drewN | apply Kd.R_drew)); exact HO732.out) hb)
   replace BK708 := Z.bb BK708 hb
   replace BK709 := Z.bb BK709 hb
   replace BK710 := Z.bb BK710 hb
   replace BK733 := Z.bb BK733 hb
   replace HB := Aside0.mk (below_step (by repeat (first | (with_reducible first | exact HB.out | apply below_alloc | apply pw_below_drewN | apply below_drew1 | refine below_set ?_ GE708.out | refine below_set ?_ GE709.out | refine below_set ?_ GE710.out | refine below_set ?_ GE733.out) | exact HB.out)) hb)
   (try clear hb)
   (try clear hb2)
   (try clear hk)
   (try clear hi)
   refine hK.out _ _ ⟨(blk_cell BK733.out 0).trans rfl, (blk_cell BK733.out 1).trans rfl, (blk_cell BK733.out 2).trans rfl, (blk_cell BK709.out 0).trans rfl, (blk_cell BK709.out 1).trans rfl, (blk_cell BK709.out 2).trans rfl, (blk_cell BK710.out 0).trans rfl, (blk_cell BK710.out 1).trans rfl, (blk_cell BK710.out 2).trans rfl⟩ (fun hHeld => ?_)
   clear hK K
   refine Z.nm ?_
   refine pure_ (i := 6) (N := some 10) (v := ?_) (a' := ?_) #[true, true, true, true, true, true, true] rfl rfl (by kernel_rfl) (fun _ _ _ h => h) (Or.inl ⟨by rfl, ?_⟩) ?_ ?_
   rotate_left
   ·intro w'
    go_simp
    with_reducible rfl
   rotate_left
   ·simp only [Act.put, List.setIfInBounds_toArray, List.set_cons_zero, List.set_cons_succ, i64_w, i32_w]
    rfl
   refine done_ (by kernel_rfl) ?_
   go_upto_if 33 with (fail)
   go_cut [] (fun wc => ∃ (kq : Nat), Aside0 (laws_FnExactApartOk.j1 kq a0_0 l0_1 l0_2 t726 t727 t730 = some r) ∧ Aside0 (kq ≤ kj4) ∧ Aside0 (Kd.R (Kd.int .i64) 3 wc w.heap.size (fun _ => True) (.slice Ao39 t727.length co39) t727) ∧ Aside0 (Kd.R (Kd.slice 86 k86) 83 wc w.heap.size (fun _ => True) (.slice Ao40 t730.length co40) t730) ∧ Aside0 (wc.heap[gb708]? = some (.cells #[.int .i64 a0_0, (.slice A0_1 l0_1.length c0_1), (.slice A0_2 l0_2.length c0_2)] 27 (0, 0))) ∧ Aside0 (wc.heap[gb709]? = some (.cells #[.int .i64 a1_0, .int .i64 a1_1, .int .i64 a1_2] 51 (0, 0))) ∧ Aside0 (wc.heap[gb710]? = some (.cells #[.int .i64 a2_0, .int .i64 a2_1, .int .i64 a2_2] 51 (0, 0))) ∧ Aside0 (wc.heap[gb733]? = some (.cells #[.int .i64 t726, (.slice Ao39 t727.length co39), (.slice Ao40 t730.length co40)] 35 (0, 0))) ∧ Aside0 (Below w.heap.size w wc))
   case first =>
    have H := HC22.out
    clear HC22
    by_cases c46 : (t740 != t725) = true
    ·rw [if_pos c46] at H
     have c46b0 : (t740 != t725) = true := c46
     (try (have c46b4 : (!t740 == t725) = true := (by decide : ∀ a b : Bool, (a != b) = true → (!a == b) = true) _ _ c46b0))
     (try (have c46b1 : decide (t740 = t725) = false := by simpa using c46))
     (try (have c46b2 : (t740 == t725) = false := by simpa using c46))
     (try (have c46b3 : ¬ (t740 = t725) := by simpa using c46))
     clear c46
     (first | rw [c46b4] | rw [c46b0] | (simp only [i64_w, i32_w]; rw [c46b0]) | skip)
     obtain rfl := Option.some.inj H
     go_wp2
     go_ret
     exact ⟨by first | rfl | (simp [errW_none, errW_some] <;> rfl) | (simp [*, errW_none, errW_some] <;> rfl), by repeat (first | (with_reducible first | exact HB.out | apply below_alloc | apply pw_below_drewN | apply below_drew1 | refine below_set ?_ GE708.out | refine below_set ?_ GE709.out | refine below_set ?_ GE710.out | refine below_set ?_ GE733.out) | exact HB.out)⟩
    ·rw [if_neg c46] at H
     have c46b0 : (t740 != t725) = false := by simpa using c46
     (try (have c46b4 : (!t740 == t725) = false := (by decide : ∀ a b : Bool, (a != b) = false → (!a == b) = false) _ _ c46b0))
     (try (have c46b1 : decide (t740 = t725) = true := by simpa using c46))
     (try (have c46b2 : (t740 == t725) = true := by simpa using c46))
     clear c46
     (first | rw [c46b4] | rw [c46b0] | (simp only [i64_w, i32_w]; rw [c46b0]) | skip)
     have H' := Aside0.mk H
     clear H
     go_wp2
     go_meet
     case rel => exact ⟨_, H', ⟨by have := HJ4.out; first | omega | exact Nat.le_refl _⟩, ⟨by (with_reducible repeat (first | apply Kd.R_alloc | apply Kd.R_drewN | apply Kd.R_drew)); exact Kd.R_mono HO729.out (fun _ hk => trivial)⟩, ⟨by (with_reducible repeat (first | apply Kd.R_alloc | apply Kd.R_drewN | apply Kd.R_drew)); exact Kd.R_mono HO732.out (fun _ hk => trivial)⟩, ⟨by (with_reducible repeat (first | refine blk_drewN ?_ _ | refine blk_drew ?_ | refine blk_alloc ?_ _)); exact BK708.out⟩, ⟨by (with_reducible repeat (first | refine blk_drewN ?_ _ | refine blk_drew ?_ | refine blk_alloc ?_ _)); exact BK709.out⟩, ⟨by (with_reducible repeat (first | refine blk_drewN ?_ _ | refine blk_drew ?_ | refine blk_alloc ?_ _)); exact BK710.out⟩, ⟨by (with_reducible repeat (first | refine blk_drewN ?_ _ | refine blk_drew ?_ | refine blk_alloc ?_ _)); exact BK733.out⟩, ⟨by repeat (first | (with_reducible first | exact HB.out | apply below_alloc | apply pw_below_drewN | apply below_drew1 | refine below_set ?_ GE708.out | refine below_set ?_ GE709.out | refine below_set ?_ GE710.out | refine below_set ?_ GE733.out) | exact HB.out)⟩⟩
   case rest =>
    clear HC22
    try clear c1
    try clear c2
    try clear p2
    try clear c3
    try clear c4
    try clear c6
    try clear c9
    try clear c10
    try clear c13
    try clear c13b0
    try clear c17
    try clear c20
    try clear c30
    try clear c31
    try clear c35
    try clear c36
    try clear c37
    try clear c38
    try clear c46
    try clear c46b0
    try clear c46b1
    try clear c46b2
    try clear hcz11_0
    try clear hcz11_1
    try clear hcz11_2
    try clear hcz32_0
    try clear hcz32_1
    try clear hcz32_2
    try clear hcz38_0
    try clear hcz38_1
    try clear hcz38_2
    try clear hfz11_0
    try clear hfz11_1
    try clear hfz11_2
    try clear hfz32_0
    try clear hfz32_1
    try clear hfz32_2
    try clear hfz38_0
    try clear hfz38_1
    try clear hfz38_2
    try clear p2
    obtain ⟨kq, HA, HJ21, HO_734001, HO_734002, BK708, BK709, BK710, BK733, HB⟩ := hcut
    cases kq with
    | zero => exact absurd HA.out (by simp [laws_FnExactApartOk.j1])
    | succ kj21 =>
     have H := HA.out
     clear HA
     simp only [laws_FnExactApartOk.j1] at H
     replace H := Option.bind_eq_some_iff.mp H
     obtain ⟨⟨t741, t742, t745⟩, A470, H⟩ := H
     try dsimp only at H
     have A47 := Aside0.mk A470
     clear A470
     replace H := Option.bind_eq_some_iff.mp H
     obtain ⟨t748, A480, H⟩ := H
     try dsimp only at H
     have A48 := Aside0.mk A480
     clear A480
     by_cases c49 : t748 = true
     ·subst c49
      rw [if_pos rfl] at H
      obtain rfl := Option.some.inj H
      try go_wp2
      replace HO_734001 := Aside0.mk (Kd.R_drew HO_734001.out)
      replace HO_734002 := Aside0.mk (Kd.R_drew HO_734002.out)
      replace BK708 := Aside0.mk (blk_drew BK708.out)
      replace BK709 := Aside0.mk (blk_drew BK709.out)
      replace BK710 := Aside0.mk (blk_drew BK710.out)
      replace BK733 := Aside0.mk (blk_drew BK733.out)
      replace HB := Aside0.mk (below_drew1 HB.out)
      refine start_ (n := 5) (S := fun w' => w'.cell? ⟨gb733, 0, none⟩ = some (.int .i64 t726) ∧ w'.cell? ⟨gb733, 1, none⟩ = some (.slice Ao39 t727.length co39) ∧ w'.cell? ⟨gb733, 2, none⟩ = some (.slice Ao40 t730.length co40) ∧ w'.cell? ⟨gb708, 0, none⟩ = some (.int .i64 a0_0) ∧ w'.cell? ⟨gb708, 1, none⟩ = some (.slice A0_1 l0_1.length c0_1) ∧ w'.cell? ⟨gb708, 2, none⟩ = some (.slice A0_2 l0_2.length c0_2)) (ds := []) #[false, false, false, false, false] (by kernel_rfl) rfl rfl ⟨(blk_cell BK733.out 0).trans rfl, (blk_cell BK733.out 1).trans rfl, (blk_cell BK733.out 2).trans rfl, (blk_cell BK708.out 0).trans rfl, (blk_cell BK708.out 1).trans rfl, (blk_cell BK708.out 2).trans rfl⟩ (fun hHeld => ?_)
      generalize wc.drew = w50 at HO_734001 HO_734002 BK708 BK709 BK710 BK733 HB hHeld ⊢
      refine take_ (i := 0) (N := some 34) (v := ?_) (a' := ?_) #[true, false, false, false, false] rfl rfl (by kernel_rfl) (fun _ _ _ h => h) (Or.inl ⟨by rfl, ?_⟩) hHeld ?_ ?_
      rotate_left
      ·rintro w' ⟨s0, s1, s2, s3, s4, s5⟩
       go_simp
       with_reducible rfl
      rotate_left
      ·simp only [Act.put, List.setIfInBounds_toArray, List.set_cons_zero, List.set_cons_succ, i64_w, i32_w]
       rfl
      refine take_ (i := 1) (N := some 35) (v := ?_) (a' := ?_) #[true, true, false, false, false] rfl rfl (by kernel_rfl) (fun _ _ _ h => h) (Or.inl ⟨by rfl, ?_⟩) hHeld ?_ ?_
      rotate_left
      ·rintro w' ⟨s0, s1, s2, s3, s4, s5⟩
       go_simp
       with_reducible rfl
      rotate_left
      ·simp only [Act.put, List.setIfInBounds_toArray, List.set_cons_zero, List.set_cons_succ, i64_w, i32_w]
       rfl
      refine one_ (i := 2) (N := some 36) (Z.mb 5 7) rfl rfl (by kernel_rfl) (by decide) (fun K hK => ?_)
      refine goes_ Try.func20 (by kernel_rfl) rfl #[.agg #[.int .i64 a0_0, .slice A0_1 l0_1.length c0_1, .slice A0_2 l0_2.length c0_2]] (by rfl) rfl rfl Z.ar ?_
      with_reducible refine (laws_toCharter.calls kj21 a0_0 _ _ l0_1 _ _ l0_2 t741 t742 t745 _ ?q1 ?q2 ?q3 ?q4 A47.out).mono ?_
      (case q1 => exact Z.cc HR0_1 HB)
      (case q2 => exact HC0_1.out)
      (case q3 => exact Z.cc HR0_2 HB)
      (case q4 => exact HC0_2.out)
      rintro e w51 ⟨v743, v746, rfl, ho0, ho1, hb⟩
      refine ⟨_, rfl, ?_⟩
      have HO744 := Aside0.mk (Kd.R_lower (Kd.R_new' ho0 (Kd.R_lt (by (with_reducible repeat (first | apply Kd.R_alloc | apply Kd.R_drewN | apply Kd.R_drew)); exact HO_734001.out))) (below_size (by repeat (first | (with_reducible first | exact HB.out | apply below_alloc | apply pw_below_drewN | apply below_drew1 | refine below_set ?_ GE708.out | refine below_set ?_ GE709.out | refine below_set ?_ GE710.out | refine below_set ?_ GE733.out) | exact HB.out))))
      replace HO_734001 := Aside0.mk (Kd.R_elder' (by (with_reducible repeat (first | apply Kd.R_alloc | apply Kd.R_drewN | apply Kd.R_drew)); exact HO_734001.out) (Kd.R_base ho0) hb)
      have HO747 := Aside0.mk (Kd.R_lower (Kd.R_new' ho1 (Kd.R_lt (by (with_reducible repeat (first | apply Kd.R_alloc | apply Kd.R_drewN | apply Kd.R_drew)); exact HO_734002.out))) (below_size (by repeat (first | (with_reducible first | exact HB.out | apply below_alloc | apply pw_below_drewN | apply below_drew1 | refine below_set ?_ GE708.out | refine below_set ?_ GE709.out | refine below_set ?_ GE710.out | refine below_set ?_ GE733.out) | exact HB.out))))
      replace HO_734002 := Aside0.mk (Kd.R_elder' (by (with_reducible repeat (first | apply Kd.R_alloc | apply Kd.R_drewN | apply Kd.R_drew)); exact HO_734002.out) (Kd.R_base ho1) hb)
      replace BK708 := Z.bb BK708 hb
      replace BK709 := Z.bb BK709 hb
      replace BK710 := Z.bb BK710 hb
      replace BK733 := Z.bb BK733 hb
      replace HB := Aside0.mk (below_step (by repeat (first | (with_reducible first | exact HB.out | apply below_alloc | apply pw_below_drewN | apply below_drew1 | refine below_set ?_ GE708.out | refine below_set ?_ GE709.out | refine below_set ?_ GE710.out | refine below_set ?_ GE733.out) | exact HB.out)) hb)
      (try clear hb)
      (try clear hb2)
      (try clear hk)
      (try clear hi)
      (try clear ho0)
      (try clear ho1)
      obtain ⟨Ao52, co52, eo52⟩ := Kd.R_slice HO744.out
      (first | subst eo52 | (injection eo52 with f1_ f2_ f3_; have f4_ := f1_.symm; have f5_ := f3_.symm; clear f1_ f2_ f3_; subst f4_; subst f5_))
      obtain ⟨Ao53, co53, eo53⟩ := Kd.R_slice HO747.out
      (first | subst eo53 | (injection eo53 with f1_ f2_ f3_; have f4_ := f1_.symm; have f5_ := f3_.symm; clear f1_ f2_ f3_; subst f4_; subst f5_))
      refine hK.out _ _ ⟨(blk_cell BK733.out 0).trans rfl, (blk_cell BK733.out 1).trans rfl, (blk_cell BK733.out 2).trans rfl, (blk_cell BK708.out 0).trans rfl, (blk_cell BK708.out 1).trans rfl, (blk_cell BK708.out 2).trans rfl⟩ (fun hHeld => ?_)
      clear hK K
      refine Z.nm ?_
      refine one_ (i := 3) (N := some 37) (Z.mb 5 15) rfl rfl (by kernel_rfl) (by decide) (fun K hK => ?_)
      refine goes_ Try.func24 (by kernel_rfl) rfl #[.agg #[.int .i64 t726, .slice Ao39 t727.length co39, .slice Ao40 t730.length co40], .agg #[.int .i64 t741, .slice Ao52 t742.length co52, .slice Ao53 t745.length co53]] (by rfl) rfl rfl Z.ar ?_
      with_reducible refine (laws_eqCharter.calls kj21 t726 _ _ t727 _ _ t730 t741 _ _ t742 _ _ t745 true _ ?q1 ?q2 ?q3 ?q4 ?q5 ?q6 ?q7 ?q8 A48.out).mono ?_
      (case q1 => repeat (first | exact (Kd.R_reads' HO_734001.out).2.2 | (with_reducible refine Kd.C_alloc ?_ _) | (with_reducible refine Kd.C_drewN ?_ _) | (with_reducible refine Kd.C_drew ?_)))
      (case q2 => exact (Kd.R_reads' HO_734001.out).2.1)
      (case q3 => repeat (first | exact (Kd.R_reads' HO_734002.out).2.2 | (with_reducible refine Kd.C_alloc ?_ _) | (with_reducible refine Kd.C_drewN ?_ _) | (with_reducible refine Kd.C_drew ?_)))
      (case q4 => exact (Kd.R_reads' HO_734002.out).2.1)
      (case q5 => repeat (first | exact (Kd.R_reads' HO744.out).2.2 | (with_reducible refine Kd.C_alloc ?_ _) | (with_reducible refine Kd.C_drewN ?_ _) | (with_reducible refine Kd.C_drew ?_)))
      (case q6 => exact (Kd.R_reads' HO744.out).2.1)
      (case q7 => repeat (first | exact (Kd.R_reads' HO747.out).2.2 | (with_reducible refine Kd.C_alloc ?_ _) | (with_reducible refine Kd.C_drewN ?_ _) | (with_reducible refine Kd.C_drew ?_)))
      (case q8 => exact (Kd.R_reads' HO747.out).2.1)
      rintro e w54 ⟨rfl, hb⟩
      refine ⟨_, rfl, ?_⟩
      replace HO_734001 := Aside0.mk (Kd.R_below (by (with_reducible repeat (first | apply Kd.R_alloc | apply Kd.R_drewN | apply Kd.R_drew)); exact HO_734001.out) hb)
      replace HO_734002 := Aside0.mk (Kd.R_below (by (with_reducible repeat (first | apply Kd.R_alloc | apply Kd.R_drewN | apply Kd.R_drew)); exact HO_734002.out) hb)
      replace HO744 := Aside0.mk (Kd.R_below (by (with_reducible repeat (first | apply Kd.R_alloc | apply Kd.R_drewN | apply Kd.R_drew)); exact HO744.out) hb)
      replace HO747 := Aside0.mk (Kd.R_below (by (with_reducible repeat (first | apply Kd.R_alloc | apply Kd.R_drewN | apply Kd.R_drew)); exact HO747.out) hb)
      replace BK708 := Z.bb BK708 hb
      replace BK709 := Z.bb BK709 hb
      replace BK710 := Z.bb BK710 hb
      replace BK733 := Z.bb BK733 hb
      replace HB := Aside0.mk (below_step (by repeat (first | (with_reducible first | exact HB.out | apply below_alloc | apply pw_below_drewN | apply below_drew1 | refine below_set ?_ GE708.out | refine below_set ?_ GE709.out | refine below_set ?_ GE710.out | refine below_set ?_ GE733.out) | exact HB.out)) hb)
      (try clear hb)
      (try clear hb2)
      (try clear hk)
      (try clear hi)
      refine hK.out _ _ ⟨(blk_cell BK733.out 0).trans rfl, (blk_cell BK733.out 1).trans rfl, (blk_cell BK733.out 2).trans rfl, (blk_cell BK708.out 0).trans rfl, (blk_cell BK708.out 1).trans rfl, (blk_cell BK708.out 2).trans rfl⟩ (fun hHeld => ?_)
      clear hK K
      refine Z.nm ?_
      refine pure_ (i := 4) (N := some 38) (v := ?_) (a' := ?_) #[true, true, true, true, true] rfl rfl (by kernel_rfl) (fun _ _ _ h => h) (Or.inl ⟨by rfl, ?_⟩) ?_ ?_
      rotate_left
      ·intro w'
       go_simp
       with_reducible rfl
      rotate_left
      ·simp only [Act.put, List.setIfInBounds_toArray, List.set_cons_zero, List.set_cons_succ, i64_w, i32_w]
       rfl
      refine done_ (by kernel_rfl) ?_
      try go_wp2
      go_ret
      exact ⟨by first | rfl | (simp [errW_none, errW_some] <;> rfl) | (simp [*, errW_none, errW_some] <;> rfl), by repeat (first | (with_reducible first | exact HB.out | apply below_alloc | apply pw_below_drewN | apply below_drew1 | refine below_set ?_ GE708.out | refine below_set ?_ GE709.out | refine below_set ?_ GE710.out | refine below_set ?_ GE733.out) | exact HB.out)⟩
     ·replace c49 := Bool.eq_false_iff.mpr c49
      subst c49
      rw [if_neg (show ¬ (false = true) by decide)] at H
      obtain rfl := Option.some.inj H
      try go_wp2
      replace HO_734001 := Aside0.mk (Kd.R_drew HO_734001.out)
      replace HO_734002 := Aside0.mk (Kd.R_drew HO_734002.out)
      replace BK708 := Aside0.mk (blk_drew BK708.out)
      replace BK709 := Aside0.mk (blk_drew BK709.out)
      replace BK710 := Aside0.mk (blk_drew BK710.out)
      replace BK733 := Aside0.mk (blk_drew BK733.out)
      replace HB := Aside0.mk (below_drew1 HB.out)
      refine start_ (n := 5) (S := fun w' => w'.cell? ⟨gb733, 0, none⟩ = some (.int .i64 t726) ∧ w'.cell? ⟨gb733, 1, none⟩ = some (.slice Ao39 t727.length co39) ∧ w'.cell? ⟨gb733, 2, none⟩ = some (.slice Ao40 t730.length co40) ∧ w'.cell? ⟨gb708, 0, none⟩ = some (.int .i64 a0_0) ∧ w'.cell? ⟨gb708, 1, none⟩ = some (.slice A0_1 l0_1.length c0_1) ∧ w'.cell? ⟨gb708, 2, none⟩ = some (.slice A0_2 l0_2.length c0_2)) (ds := []) #[false, false, false, false, false] (by kernel_rfl) rfl rfl ⟨(blk_cell BK733.out 0).trans rfl, (blk_cell BK733.out 1).trans rfl, (blk_cell BK733.out 2).trans rfl, (blk_cell BK708.out 0).trans rfl, (blk_cell BK708.out 1).trans rfl, (blk_cell BK708.out 2).trans rfl⟩ (fun hHeld => ?_)
      generalize wc.drew = w55 at HO_734001 HO_734002 BK708 BK709 BK710 BK733 HB hHeld ⊢
      refine take_ (i := 0) (N := some 34) (v := ?_) (a' := ?_) #[true, false, false, false, false] rfl rfl (by kernel_rfl) (fun _ _ _ h => h) (Or.inl ⟨by rfl, ?_⟩) hHeld ?_ ?_
      rotate_left
      ·rintro w' ⟨s0, s1, s2, s3, s4, s5⟩
       go_simp
       with_reducible rfl
      rotate_left
      ·simp only [Act.put, List.setIfInBounds_toArray, List.set_cons_zero, List.set_cons_succ, i64_w, i32_w]
       rfl
      refine take_ (i := 1) (N := some 35) (v := ?_) (a' := ?_) #[true, true, false, false, false] rfl rfl (by kernel_rfl) (fun _ _ _ h => h) (Or.inl ⟨by rfl, ?_⟩) hHeld ?_ ?_
      rotate_left
      ·rintro w' ⟨s0, s1, s2, s3, s4, s5⟩
       go_simp
       with_reducible rfl
      rotate_left
      ·simp only [Act.put, List.setIfInBounds_toArray, List.set_cons_zero, List.set_cons_succ, i64_w, i32_w]
       rfl
      refine one_ (i := 2) (N := some 36) (Z.mb 5 7) rfl rfl (by kernel_rfl) (by decide) (fun K hK => ?_)
      refine goes_ Try.func20 (by kernel_rfl) rfl #[.agg #[.int .i64 a0_0, .slice A0_1 l0_1.length c0_1, .slice A0_2 l0_2.length c0_2]] (by rfl) rfl rfl Z.ar ?_
      with_reducible refine (laws_toCharter.calls kj21 a0_0 _ _ l0_1 _ _ l0_2 t741 t742 t745 _ ?q1 ?q2 ?q3 ?q4 A47.out).mono ?_
      (case q1 => exact Z.cc HR0_1 HB)
      (case q2 => exact HC0_1.out)
      (case q3 => exact Z.cc HR0_2 HB)
      (case q4 => exact HC0_2.out)
      rintro e w56 ⟨v743, v746, rfl, ho0, ho1, hb⟩
      refine ⟨_, rfl, ?_⟩
      have HO744 := Aside0.mk (Kd.R_lower (Kd.R_new' ho0 (Kd.R_lt (by (with_reducible repeat (first | apply Kd.R_alloc | apply Kd.R_drewN | apply Kd.R_drew)); exact HO_734001.out))) (below_size (by repeat (first | (with_reducible first | exact HB.out | apply below_alloc | apply pw_below_drewN | apply below_drew1 | refine below_set ?_ GE708.out | refine below_set ?_ GE709.out | refine below_set ?_ GE710.out | refine below_set ?_ GE733.out) | exact HB.out))))
      replace HO_734001 := Aside0.mk (Kd.R_elder' (by (with_reducible repeat (first | apply Kd.R_alloc | apply Kd.R_drewN | apply Kd.R_drew)); exact HO_734001.out) (Kd.R_base ho0) hb)
      have HO747 := Aside0.mk (Kd.R_lower (Kd.R_new' ho1 (Kd.R_lt (by (with_reducible repeat (first | apply Kd.R_alloc | apply Kd.R_drewN | apply Kd.R_drew)); exact HO_734002.out))) (below_size (by repeat (first | (with_reducible first | exact HB.out | apply below_alloc | apply pw_below_drewN | apply below_drew1 | refine below_set ?_ GE708.out | refine below_set ?_ GE709.out | refine below_set ?_ GE710.out | refine below_set ?_ GE733.out) | exact HB.out))))
      replace HO_734002 := Aside0.mk (Kd.R_elder' (by (with_reducible repeat (first | apply Kd.R_alloc | apply Kd.R_drewN | apply Kd.R_drew)); exact HO_734002.out) (Kd.R_base ho1) hb)
      replace BK708 := Z.bb BK708 hb
      replace BK709 := Z.bb BK709 hb
      replace BK710 := Z.bb BK710 hb
      replace BK733 := Z.bb BK733 hb
      replace HB := Aside0.mk (below_step (by repeat (first | (with_reducible first | exact HB.out | apply below_alloc | apply pw_below_drewN | apply below_drew1 | refine below_set ?_ GE708.out | refine below_set ?_ GE709.out | refine below_set ?_ GE710.out | refine below_set ?_ GE733.out) | exact HB.out)) hb)
      (try clear hb)
      (try clear hb2)
      (try clear hk)
      (try clear hi)
      (try clear ho0)
      (try clear ho1)
      obtain ⟨Ao57, co57, eo57⟩ := Kd.R_slice HO744.out
      (first | subst eo57 | (injection eo57 with f1_ f2_ f3_; have f4_ := f1_.symm; have f5_ := f3_.symm; clear f1_ f2_ f3_; subst f4_; subst f5_))
      obtain ⟨Ao58, co58, eo58⟩ := Kd.R_slice HO747.out
      (first | subst eo58 | (injection eo58 with f1_ f2_ f3_; have f4_ := f1_.symm; have f5_ := f3_.symm; clear f1_ f2_ f3_; subst f4_; subst f5_))
      refine hK.out _ _ ⟨(blk_cell BK733.out 0).trans rfl, (blk_cell BK733.out 1).trans rfl, (blk_cell BK733.out 2).trans rfl, (blk_cell BK708.out 0).trans rfl, (blk_cell BK708.out 1).trans rfl, (blk_cell BK708.out 2).trans rfl⟩ (fun hHeld => ?_)
      clear hK K
      refine Z.nm ?_
      refine one_ (i := 3) (N := some 37) (Z.mb 5 15) rfl rfl (by kernel_rfl) (by decide) (fun K hK => ?_)
      refine goes_ Try.func24 (by kernel_rfl) rfl #[.agg #[.int .i64 t726, .slice Ao39 t727.length co39, .slice Ao40 t730.length co40], .agg #[.int .i64 t741, .slice Ao57 t742.length co57, .slice Ao58 t745.length co58]] (by rfl) rfl rfl Z.ar ?_
      with_reducible refine (laws_eqCharter.calls kj21 t726 _ _ t727 _ _ t730 t741 _ _ t742 _ _ t745 false _ ?q1 ?q2 ?q3 ?q4 ?q5 ?q6 ?q7 ?q8 A48.out).mono ?_
      (case q1 => repeat (first | exact (Kd.R_reads' HO_734001.out).2.2 | (with_reducible refine Kd.C_alloc ?_ _) | (with_reducible refine Kd.C_drewN ?_ _) | (with_reducible refine Kd.C_drew ?_)))
      (case q2 => exact (Kd.R_reads' HO_734001.out).2.1)
      (case q3 => repeat (first | exact (Kd.R_reads' HO_734002.out).2.2 | (with_reducible refine Kd.C_alloc ?_ _) | (with_reducible refine Kd.C_drewN ?_ _) | (with_reducible refine Kd.C_drew ?_)))
      (case q4 => exact (Kd.R_reads' HO_734002.out).2.1)
      (case q5 => repeat (first | exact (Kd.R_reads' HO744.out).2.2 | (with_reducible refine Kd.C_alloc ?_ _) | (with_reducible refine Kd.C_drewN ?_ _) | (with_reducible refine Kd.C_drew ?_)))
      (case q6 => exact (Kd.R_reads' HO744.out).2.1)
      (case q7 => repeat (first | exact (Kd.R_reads' HO747.out).2.2 | (with_reducible refine Kd.C_alloc ?_ _) | (with_reducible refine Kd.C_drewN ?_ _) | (with_reducible refine Kd.C_drew ?_)))
      (case q8 => exact (Kd.R_reads' HO747.out).2.1)
      rintro e w59 ⟨rfl, hb⟩
      refine ⟨_, rfl, ?_⟩
      replace HO_734001 := Aside0.mk (Kd.R_below (by (with_reducible repeat (first | apply Kd.R_alloc | apply Kd.R_drewN | apply Kd.R_drew)); exact HO_734001.out) hb)
      replace HO_734002 := Aside0.mk (Kd.R_below (by (with_reducible repeat (first | apply Kd.R_alloc | apply Kd.R_drewN | apply Kd.R_drew)); exact HO_734002.out) hb)
      replace HO744 := Aside0.mk (Kd.R_below (by (with_reducible repeat (first | apply Kd.R_alloc | apply Kd.R_drewN | apply Kd.R_drew)); exact HO744.out) hb)
      replace HO747 := Aside0.mk (Kd.R_below (by (with_reducible repeat (first | apply Kd.R_alloc | apply Kd.R_drewN | apply Kd.R_drew)); exact HO747.out) hb)
      replace BK708 := Z.bb BK708 hb
      replace BK709 := Z.bb BK709 hb
      replace BK710 := Z.bb BK710 hb
      replace BK733 := Z.bb BK733 hb
      replace HB := Aside0.mk (below_step (by repeat (first | (with_reducible first | exact HB.out | apply below_alloc | apply pw_below_drewN | apply below_drew1 | refine below_set ?_ GE708.out | refine below_set ?_ GE709.out | refine below_set ?_ GE710.out | refine below_set ?_ GE733.out) | exact HB.out)) hb)
      (try clear hb)
      (try clear hb2)
      (try clear hk)
      (try clear hi)
      refine hK.out _ _ ⟨(blk_cell BK733.out 0).trans rfl, (blk_cell BK733.out 1).trans rfl, (blk_cell BK733.out 2).trans rfl, (blk_cell BK708.out 0).trans rfl, (blk_cell BK708.out 1).trans rfl, (blk_cell BK708.out 2).trans rfl⟩ (fun hHeld => ?_)
      clear hK K
      refine Z.nm ?_
      refine pure_ (i := 4) (N := some 38) (v := ?_) (a' := ?_) #[true, true, true, true, true] rfl rfl (by kernel_rfl) (fun _ _ _ h => h) (Or.inl ⟨by rfl, ?_⟩) ?_ ?_
      rotate_left
      ·intro w'
       go_simp
       with_reducible rfl
      rotate_left
      ·simp only [Act.put, List.setIfInBounds_toArray, List.set_cons_zero, List.set_cons_succ, i64_w, i32_w]
       rfl
      refine done_ (by kernel_rfl) ?_
      try go_wp2
      go_ret
      exact ⟨by first | rfl | (simp [errW_none, errW_some] <;> rfl) | (simp [*, errW_none, errW_some] <;> rfl), by repeat (first | (with_reducible first | exact HB.out | apply below_alloc | apply pw_below_drewN | apply below_drew1 | refine below_set ?_ GE708.out | refine below_set ?_ GE709.out | refine below_set ?_ GE710.out | refine below_set ?_ GE733.out) | exact HB.out)⟩

end Go.Proofs.Ytcafckapdgaogaa.PAll

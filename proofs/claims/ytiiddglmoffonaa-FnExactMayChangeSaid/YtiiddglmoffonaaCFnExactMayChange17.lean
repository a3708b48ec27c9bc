/- Walks of functions that FnExactMayChange reaches, in the form of the print. -/
import Derived.Test.YtiiddglmoffonaaCFnExactMayChange0
import Derived.Test.YtiiddglmoffonaaCFnExactMayChange2
import Derived.Test.YtiiddglmoffonaaCFnExactMayChange8
import Derived.Test.YtiiddglmoffonaaCFnExactMayChange15
import Derived.Test.YtiiddglmoffonaaCFnExactMayChange16
import Derived.Test.YtiiddglmoffonaaZ
namespace Go.Proofs.Ytiiddglmoffonaa.PFnExactMayChange
open Go.RowKit Go.Proofs.YtiiddglmoffonaaW.PrintWords Go.Proofs.YtiiddglmoffonaaW.PrintLast Go.Proofs.YtiiddglmoffonaaW.PrintMore

set_option linter.unusedVariables false
set_option linter.unusedSimpArgs false

/-! ### laws_FnExactMayChange: function 9 -/
def laws_FnExactMayChange.f (k : Nat) (a0_0 : Int) (l0_1 : List Int) (l0_2 : List (List (S138))) (l1 : List Int) (a2 : Int) (a3 : Int) (a4 : Int) : Option (Bool) := if (l1.length : Int) > 1048576 then (some true) else ((laws_szCharter.f k a0_0 l0_1 l0_2 1048576).bind fun t348 => (if t348 < 0 then (some true) else ((laws_toCharter.f k a0_0 l0_1 l0_2).bind fun bt349 => ((laws_toIntS.f k l1).bind fun t356 => ((spec_MayChange.f k bt349.1 bt349.2.1 bt349.2.2 t356 a2 a3 a4).bind fun t359 => ((laws_toCharter.f k a0_0 l0_1 l0_2).bind fun bt360 => ((laws_toIntS.f k l1).bind fun t368 => ((impl_MayChange.f k bt360.1 bt360.2.1 bt360.2.2 t368 a2 a3 a4).bind fun t371 => (if (t371 != t359) = true then (some false) else ((laws_toCharter.f k a0_0 l0_1 l0_2).bind fun bt372 => ((laws_eqCharter.f k bt360.1 bt360.2.1 bt360.2.2 bt372.1 bt372.2.1 bt372.2.2).bind fun t379 => (if t379 = true then ((laws_toIntS.f k l1).bind fun t380 => ((laws_eqIntS.f k t368 t380).bind fun t383 => (if t383 = true then (some true) else (some false)))) else (some false)))))))))))))
theorem laws_FnExactMayChange.mono : ∀ a0 a1 a2 a3 a4 a5 a6 k, LeO (laws_FnExactMayChange.f k a0 a1 a2 a3 a4 a5 a6) (laws_FnExactMayChange.f (k + 1) a0 a1 a2 a3 a4 a5 a6) := by
 intro a0 a1 a2 a3 a4 a5 a6 k
 unfold laws_FnExactMayChange.f
 repeat' first
   | (with_reducible exact impl_MayChange.mono _ _ _ _ _ _ _ _)
   | (with_reducible exact laws_eqCharter.mono _ _ _ _ _ _ _)
   | (with_reducible exact laws_eqIntS.mono _ _ _)
   | (with_reducible exact laws_szCharter.mono _ _ _ _ _)
   | (with_reducible exact laws_toCharter.mono _ _ _ _)
   | (with_reducible exact laws_toIntS.mono _ _)
   | (with_reducible exact spec_MayChange.mono _ _ _ _ _ _ _ _)
   | (with_reducible exact LeO.refl _)
   | (with_reducible exact LeO.none _)
   | (with_reducible refine LeO.ite ?_ ?_)
   | (with_reducible refine LeO.bind ?_ (fun _ => ?_))
   | exact impl_MayChange.mono _ _ _ _ _ _ _ _
   | exact laws_eqCharter.mono _ _ _ _ _ _ _
   | exact laws_eqIntS.mono _ _ _
   | exact laws_szCharter.mono _ _ _ _ _
   | exact laws_toCharter.mono _ _ _ _
   | exact laws_toIntS.mono _ _
   | exact spec_MayChange.mono _ _ _ _ _ _ _ _
   | exact LeO.none _
   | refine LeO.ite ?_ ?_
   | refine LeO.bind ?_ (fun _ => ?_)
set_option maxHeartbeats 8000000 in
set_option maxRecDepth 100000 in
theorem laws_FnExactMayChange.calls (k : Nat) (a0_0 : Int) (A0_1 : Option Addr) (c0_1 : Nat) (l0_1 : List Int) (A0_2 : Option Addr) (c0_2 : Nat) (l0_2 : List (List (S138))) (A1 : Option Addr) (c1 : Nat) (l1 : List Int) (a2 : Int) (a3 : Int) (a4 : Int) (r : Bool) (w : World) (hr0_1 : Kd.C (Kd.int .i64) w A0_1 l0_1.length l0_1) (hc0_1 : l0_1.length ≤ c0_1) (hr0_2 : Kd.C (Kd.slice 138 k138) w A0_2 l0_2.length l0_2) (hc0_2 : l0_2.length ≤ c0_2) (hr1 : Kd.C (Kd.int .i64) w A1 l1.length l1) (hc1 : l1.length ≤ c1) (h : laws_FnExactMayChange.f k a0_0 l0_1 l0_2 l1 a2 a3 a4 = some r) :
  Calls Try.prog 9 #[.agg #[.int .i64 a0_0, .slice A0_1 l0_1.length c0_1, .slice A0_2 l0_2.length c0_2], .slice A1 l1.length c1, .int .i64 a2, .int .i64 a3, .int .i64 a4] w fun e w' => e = .returned (.bool r) ∧ Below w.heap.size w w' := by
 have hu62 := Try.underlying62
 have hu67 := Try.underlying67
 have HR0_1 := Aside0.mk hr0_1
 have HC0_1 := Aside0.mk hc0_1
 clear hr0_1 hc0_1
 have HR0_2 := Aside0.mk hr0_2
 have HC0_2 := Aside0.mk hc0_2
 clear hr0_2 hc0_2
 have HR1 := Aside0.mk hr1
 have HC1 := Aside0.mk hc1
 clear hr1 hc1
 have HB := Aside0.mk (Below.refl w.heap.size w)
 have H : (if (l1.length : Int) > 1048576 then (some true) else ((laws_szCharter.f k a0_0 l0_1 l0_2 1048576).bind fun t348 => (if t348 < 0 then (some true) else ((laws_toCharter.f k a0_0 l0_1 l0_2).bind fun bt349 => ((laws_toIntS.f k l1).bind fun t356 => ((spec_MayChange.f k bt349.1 bt349.2.1 bt349.2.2 t356 a2 a3 a4).bind fun t359 => ((laws_toCharter.f k a0_0 l0_1 l0_2).bind fun bt360 => ((laws_toIntS.f k l1).bind fun t368 => ((impl_MayChange.f k bt360.1 bt360.2.1 bt360.2.2 t368 a2 a3 a4).bind fun t371 => (if (t371 != t359) = true then (some false) else ((laws_toCharter.f k a0_0 l0_1 l0_2).bind fun bt372 => ((laws_eqCharter.f k bt360.1 bt360.2.1 bt360.2.2 bt372.1 bt372.2.1 bt372.2.2).bind fun t379 => (if t379 = true then ((laws_toIntS.f k l1).bind fun t380 => ((laws_eqIntS.f k t368 t380).bind fun t383 => (if t383 = true then (some true) else (some false)))) else (some false)))))))))))))) = some r := h
 clear h
 by_cases c6 : (l1.length : Int) > 1048576
 ·rw [if_pos c6] at H
  have c6b0 : decide (1048576 < (l1.length : Int)) = true := decide_eq_true c6
  have c6b1 : decide (1048576 < l1.length) = true := decide_eq_true (by omega)
  clear c6
  obtain rfl := Option.some.inj H
  go_enter Try.func9, Try.ntmps9
  go_wp2_with (((with_reducible refine gate_dst (N := 5) rfl ?_); refine box_event ?hg (N := 5) ?hd (cs := #[.int .i64 a0_0, .slice A0_1 l0_1.length c0_1, .slice A0_2 l0_2.length c0_2]) (t := 62) ?hr ?_; (case hd => rfl); (case hg => rfl); (case hr => (go_simp; done)); intro gb347 hg w7 hbox hb; have n0_ := Aside0.mk (below_step (Z.bl HB.out) hb); have n1_ := Aside0.mk (hbox); have n2_ := Aside0.mk ((by rw [hg]; exact (below_size (Z.bl HB.out)) : w.heap.size ≤ gb347)); have n3_ := Aside0.mk ((by rw [hg]; exact (below_size (Z.bl HB.out)) : w.heap.size ≤ gb347)); clear HB; have HB := n0_; have BK347 := n1_; have GW347 := n2_; have GE347 := n3_; clear n0_ n1_ n2_ n3_; clear hb hbox hg))
  go_ret
  exact ⟨by rfl, Z.bs HB.out GE347.out⟩
 ·rw [if_neg c6] at H
  have c6b0 : decide (1048576 < (l1.length : Int)) = false := decide_eq_false c6
  have c6b1 : decide (1048576 < l1.length) = false := decide_eq_false (by omega)
  clear c6
  replace H := Option.bind_eq_some_iff.mp H
  obtain ⟨t348, A80, H⟩ := H
  replace H : (if t348 < 0 then (some true) else ((laws_toCharter.f k a0_0 l0_1 l0_2).bind fun bt349 => ((laws_toIntS.f k l1).bind fun t356 => ((spec_MayChange.f k bt349.1 bt349.2.1 bt349.2.2 t356 a2 a3 a4).bind fun t359 => ((laws_toCharter.f k a0_0 l0_1 l0_2).bind fun bt360 => ((laws_toIntS.f k l1).bind fun t368 => ((impl_MayChange.f k bt360.1 bt360.2.1 bt360.2.2 t368 a2 a3 a4).bind fun t371 => (if (t371 != t359) = true then (some false) else ((laws_toCharter.f k a0_0 l0_1 l0_2).bind fun bt372 => ((laws_eqCharter.f k bt360.1 bt360.2.1 bt360.2.2 bt372.1 bt372.2.1 bt372.2.2).bind fun t379 => (if t379 = true then ((laws_toIntS.f k l1).bind fun t380 => ((laws_eqIntS.f k t368 t380).bind fun t383 => (if t383 = true then (some true) else (some false)))) else (some false)))))))))))) = some r := H
  have A8 := Aside0.mk A80
  clear A80
  by_cases c9 : t348 < 0
  ·rw [if_pos c9] at H
   have c9b0 : decide (t348 < 0) = true := decide_eq_true c9
   clear c9
   obtain rfl := Option.some.inj H
   go_enter Try.func9, Try.ntmps9
   go_wp2_with (first | ((with_reducible refine gate_dst (N := 5) rfl ?_); refine box_event ?hg (N := 5) ?hd (cs := #[.int .i64 a0_0, .slice A0_1 l0_1.length c0_1, .slice A0_2 l0_2.length c0_2]) (t := 62) ?hr ?_; (case hd => rfl); (case hg => rfl); (case hr => (go_simp; done)); intro gb347 hg w10 hbox hb; have n0_ := Aside0.mk (below_step (Z.bl HB.out) hb); have n1_ := Aside0.mk (hbox); have n2_ := Aside0.mk ((by rw [hg]; exact (below_size (Z.bl HB.out)) : w.heap.size ≤ gb347)); have n3_ := Aside0.mk ((by rw [hg]; exact (below_size (Z.bl HB.out)) : w.heap.size ≤ gb347)); clear HB; have HB := n0_; have BK347 := n1_; have GW347 := n2_; have GE347 := n3_; clear n0_ n1_ n2_ n3_; clear hb hbox hg; have hcz11_0 : w10.cell? ⟨gb347, 0, none⟩ = some (.int .i64 a0_0) := (blk_cell BK347.out 0).trans rfl; have hcz11_1 : w10.cell? ⟨gb347, 1, none⟩ = some (.slice A0_1 l0_1.length c0_1) := (blk_cell BK347.out 1).trans rfl; have hcz11_2 : w10.cell? ⟨gb347, 2, none⟩ = some (.slice A0_2 l0_2.length c0_2) := (blk_cell BK347.out 2).trans rfl; have hfz11_0 := blk_frozen BK347.out 0; have hfz11_1 := blk_frozen BK347.out 1; have hfz11_2 := blk_frozen BK347.out 2) | ((with_reducible refine gate_callee (f := 42) rfl ?_); refine goesL_ (some 21) rfl rfl Try.func42 (by kernel_rfl) rfl #[.agg #[.int .i64 a0_0, .slice A0_1 l0_1.length c0_1, .slice A0_2 l0_2.length c0_2], .int .i64 1048576] rfl Z.ar ?_; (with_reducible refine (laws_szCharter.calls k a0_0 _ _ l0_1 _ _ l0_2 1048576 t348 _ ?side1 ?side2 ?side3 ?side4 A8.out).mono ?_); (case side1 => exact Z.cb (Kd.C_below HR0_1.out HB.out)); (case side2 => exact HC0_1.out); (case side3 => exact Z.cb (Kd.C_below HR0_2.out HB.out)); (case side4 => exact HC0_2.out); rintro e w12 ⟨rfl, hb⟩; refine ⟨_, rfl, ?_⟩; have n0_ := Aside0.mk (blk_below (g := gb347) (o := .cells #[.int .i64 a0_0, .slice A0_1 l0_1.length c0_1, .slice A0_2 l0_2.length c0_2] 62 (0, 0)) (Z.bk BK347.out) hb); have n1_ := Aside0.mk (below_step (Z.bs HB.out GE347.out) hb); clear BK347; clear HB; have BK347 := n0_; have HB := n1_; clear n0_ n1_; (try clear hb)))
   go_ret
   exact ⟨by rfl, Z.bs HB.out GE347.out⟩
  ·rw [if_neg c9] at H
   have c9b0 : decide (t348 < 0) = false := decide_eq_false c9
   clear c9
   replace H := Option.bind_eq_some_iff.mp H
   obtain ⟨⟨t349, t350, t353⟩, A130, H⟩ := H
   replace H : ((laws_toIntS.f k l1).bind fun t356 => ((spec_MayChange.f k t349 t350 t353 t356 a2 a3 a4).bind fun t359 => ((laws_toCharter.f k a0_0 l0_1 l0_2).bind fun bt360 => ((laws_toIntS.f k l1).bind fun t368 => ((impl_MayChange.f k bt360.1 bt360.2.1 bt360.2.2 t368 a2 a3 a4).bind fun t371 => (if (t371 != t359) = true then (some false) else ((laws_toCharter.f k a0_0 l0_1 l0_2).bind fun bt372 => ((laws_eqCharter.f k bt360.1 bt360.2.1 bt360.2.2 bt372.1 bt372.2.1 bt372.2.2).bind fun t379 => (if t379 = true then ((laws_toIntS.f k l1).bind fun t380 => ((laws_eqIntS.f k t368 t380).bind fun t383 => (if t383 = true then (some true) else (some false)))) else (some false)))))))))) = some r := H
   have A13 := Aside0.mk A130
   clear A130
   replace H := Option.bind_eq_some_iff.mp H
   obtain ⟨t356, A140, H⟩ := H
   replace H : ((spec_MayChange.f k t349 t350 t353 t356 a2 a3 a4).bind fun t359 => ((laws_toCharter.f k a0_0 l0_1 l0_2).bind fun bt360 => ((laws_toIntS.f k l1).bind fun t368 => ((impl_MayChange.f k bt360.1 bt360.2.1 bt360.2.2 t368 a2 a3 a4).bind fun t371 => (if (t371 != t359) = true then (some false) else ((laws_toCharter.f k a0_0 l0_1 l0_2).bind fun bt372 => ((laws_eqCharter.f k bt360.1 bt360.2.1 bt360.2.2 bt372.1 bt372.2.1 bt372.2.2).bind fun t379 => (if t379 = true then ((laws_toIntS.f k l1).bind fun t380 => ((laws_eqIntS.f k t368 t380).bind fun t383 => (if t383 = true then (some true) else (some false)))) else (some false))))))))) = some r := H
   have A14 := Aside0.mk A140
   clear A140
   replace H := Option.bind_eq_some_iff.mp H
   obtain ⟨t359, A150, H⟩ := H
   replace H : ((laws_toCharter.f k a0_0 l0_1 l0_2).bind fun bt360 => ((laws_toIntS.f k l1).bind fun t368 => ((impl_MayChange.f k bt360.1 bt360.2.1 bt360.2.2 t368 a2 a3 a4).bind fun t371 => (if (t371 != t359) = true then (some false) else ((laws_toCharter.f k a0_0 l0_1 l0_2).bind fun bt372 => ((laws_eqCharter.f k bt360.1 bt360.2.1 bt360.2.2 bt372.1 bt372.2.1 bt372.2.2).bind fun t379 => (if t379 = true then ((laws_toIntS.f k l1).bind fun t380 => ((laws_eqIntS.f k t368 t380).bind fun t383 => (if t383 = true then (some true) else (some false)))) else (some false)))))))) = some r := H
   have A15 := Aside0.mk A150
   clear A150
   replace H := Option.bind_eq_some_iff.mp H
   obtain ⟨⟨t360, t361, t364⟩, A160, H⟩ := H
   replace H : ((laws_toIntS.f k l1).bind fun t368 => ((impl_MayChange.f k t360 t361 t364 t368 a2 a3 a4).bind fun t371 => (if (t371 != t359) = true then (some false) else ((laws_toCharter.f k a0_0 l0_1 l0_2).bind fun bt372 => ((laws_eqCharter.f k t360 t361 t364 bt372.1 bt372.2.1 bt372.2.2).bind fun t379 => (if t379 = true then ((laws_toIntS.f k l1).bind fun t380 => ((laws_eqIntS.f k t368 t380).bind fun t383 => (if t383 = true then (some true) else (some false)))) else (some false))))))) = some r := H
   have A16 := Aside0.mk A160
   clear A160
   replace H := Option.bind_eq_some_iff.mp H
   obtain ⟨t368, A170, H⟩ := H
   replace H : ((impl_MayChange.f k t360 t361 t364 t368 a2 a3 a4).bind fun t371 => (if (t371 != t359) = true then (some false) else ((laws_toCharter.f k a0_0 l0_1 l0_2).bind fun bt372 => ((laws_eqCharter.f k t360 t361 t364 bt372.1 bt372.2.1 bt372.2.2).bind fun t379 => (if t379 = true then ((laws_toIntS.f k l1).bind fun t380 => ((laws_eqIntS.f k t368 t380).bind fun t383 => (if t383 = true then (some true) else (some false)))) else (some false)))))) = some r := H
   have A17 := Aside0.mk A170
   clear A170
   replace H := Option.bind_eq_some_iff.mp H
   obtain ⟨t371, A180, H⟩ := H
   replace H : (if (t371 != t359) = true then (some false) else ((laws_toCharter.f k a0_0 l0_1 l0_2).bind fun bt372 => ((laws_eqCharter.f k t360 t361 t364 bt372.1 bt372.2.1 bt372.2.2).bind fun t379 => (if t379 = true then ((laws_toIntS.f k l1).bind fun t380 => ((laws_eqIntS.f k t368 t380).bind fun t383 => (if t383 = true then (some true) else (some false)))) else (some false))))) = some r := H
   have A18 := Aside0.mk A180
   clear A180
   by_cases c19 : (t371 != t359) = true
   ·rw [if_pos c19] at H
    have c19b0 : (t371 != t359) = true := c19
    (try (have c19b1 : decide (t371 = t359) = false := by simpa using c19))
    (try (have c19b2 : (t371 == t359) = false := by simpa using c19))
    (try (have c19b3 : ¬ (t371 = t359) := by simpa using c19))
    clear c19
    obtain rfl := Option.some.inj H
    go_enter Try.func9, Try.ntmps9
    go_wp2_with (first | ((with_reducible refine gate_dst (N := 5) rfl ?_); refine box_event ?hg (N := 5) ?hd (cs := #[.int .i64 a0_0, .slice A0_1 l0_1.length c0_1, .slice A0_2 l0_2.length c0_2]) (t := 62) ?hr ?_; (case hd => rfl); (case hg => rfl); (case hr => (go_simp; done)); intro gb347 hg w20 hbox hb; have n0_ := Aside0.mk (below_step (Z.bl HB.out) hb); have n1_ := Aside0.mk (hbox); have n2_ := Aside0.mk ((by rw [hg]; exact (below_size (Z.bl HB.out)) : w.heap.size ≤ gb347)); have n3_ := Aside0.mk ((by rw [hg]; exact (below_size (Z.bl HB.out)) : w.heap.size ≤ gb347)); clear HB; have HB := n0_; have BK347 := n1_; have GW347 := n2_; have GE347 := n3_; clear n0_ n1_ n2_ n3_; clear hb hbox hg; have hcz21_0 : w20.cell? ⟨gb347, 0, none⟩ = some (.int .i64 a0_0) := (blk_cell BK347.out 0).trans rfl; have hcz21_1 : w20.cell? ⟨gb347, 1, none⟩ = some (.slice A0_1 l0_1.length c0_1) := (blk_cell BK347.out 1).trans rfl; have hcz21_2 : w20.cell? ⟨gb347, 2, none⟩ = some (.slice A0_2 l0_2.length c0_2) := (blk_cell BK347.out 2).trans rfl; have hfz21_0 := blk_frozen BK347.out 0; have hfz21_1 := blk_frozen BK347.out 1; have hfz21_2 := blk_frozen BK347.out 2) | ((with_reducible refine gate_callee (f := 42) rfl ?_); refine goesL_ (some 21) rfl rfl Try.func42 (by kernel_rfl) rfl #[.agg #[.int .i64 a0_0, .slice A0_1 l0_1.length c0_1, .slice A0_2 l0_2.length c0_2], .int .i64 1048576] rfl Z.ar ?_; (with_reducible refine (laws_szCharter.calls k a0_0 _ _ l0_1 _ _ l0_2 1048576 t348 _ ?side1 ?side2 ?side3 ?side4 A8.out).mono ?_); (case side1 => exact Z.cb (Kd.C_below HR0_1.out HB.out)); (case side2 => exact HC0_1.out); (case side3 => exact Z.cb (Kd.C_below HR0_2.out HB.out)); (case side4 => exact HC0_2.out); rintro e w22 ⟨rfl, hb⟩; refine ⟨_, rfl, ?_⟩; have n0_ := Aside0.mk (blk_below (g := gb347) (o := .cells #[.int .i64 a0_0, .slice A0_1 l0_1.length c0_1, .slice A0_2 l0_2.length c0_2] 62 (0, 0)) (Z.bk BK347.out) hb); have n1_ := Aside0.mk (below_step (Z.bs HB.out GE347.out) hb); clear BK347; clear HB; have BK347 := n0_; have HB := n1_; clear n0_ n1_; (try clear hb); have hcz23_0 : w22.cell? ⟨gb347, 0, none⟩ = some (.int .i64 a0_0) := (blk_cell BK347.out 0).trans rfl; have hcz23_1 : w22.cell? ⟨gb347, 1, none⟩ = some (.slice A0_1 l0_1.length c0_1) := (blk_cell BK347.out 1).trans rfl; have hcz23_2 : w22.cell? ⟨gb347, 2, none⟩ = some (.slice A0_2 l0_2.length c0_2) := (blk_cell BK347.out 2).trans rfl; have hfz23_0 := blk_frozen BK347.out 0; have hfz23_1 := blk_frozen BK347.out 1; have hfz23_2 := blk_frozen BK347.out 2) | ((with_reducible refine gate_callee (f := 44) rfl ?_); refine goesL_ (some 25) rfl rfl Try.func44 (by kernel_rfl) rfl #[.agg #[.int .i64 a0_0, .slice A0_1 l0_1.length c0_1, .slice A0_2 l0_2.length c0_2]] rfl Z.ar ?_; (with_reducible refine (laws_toCharter.calls k a0_0 _ _ l0_1 _ _ l0_2 t349 t350 t353 _ ?side1 ?side2 ?side3 ?side4 A13.out).mono ?_); (case side1 => exact Z.cb (Kd.C_below HR0_1.out HB.out)); (case side2 => exact HC0_1.out); (case side3 => exact Z.cb (Kd.C_below HR0_2.out HB.out)); (case side4 => exact HC0_2.out); rintro e w24 ⟨v351, v354, rfl, ho0, ho1, hb⟩; refine ⟨_, rfl, ?_⟩; have n0_ := Aside0.mk (Kd.R_lower ho0 (below_size (Z.bs HB.out GE347.out))); have n1_ := Aside0.mk (Kd.R_lower ho1 (below_size (Z.bs HB.out GE347.out))); have n2_ := Aside0.mk (blk_below (g := gb347) (o := .cells #[.int .i64 a0_0, .slice A0_1 l0_1.length c0_1, .slice A0_2 l0_2.length c0_2] 62 (0, 0)) (Z.bk BK347.out) hb); have n3_ := Aside0.mk (below_step (Z.bs HB.out GE347.out) hb); clear BK347; clear HB; have HO352 := n0_; have HO355 := n1_; have BK347 := n2_; have HB := n3_; clear n0_ n1_ n2_ n3_; (try clear hb); (try clear ho0); (try clear ho1)) | ((with_reducible refine gate_callee (f := 45) rfl ?_); refine goesL_ (some 27) rfl rfl Try.func45 (by kernel_rfl) rfl #[.slice A1 l1.length c1] rfl Z.ar ?_; (with_reducible refine (laws_toIntS.calls k _ _ l1 t356 _ ?side1 ?side2 A14.out).mono ?_); (case side1 => exact Z.cb (Kd.C_below HR1.out HB.out)); (case side2 => exact HC1.out); rintro e w25 ⟨v357, rfl, ho0, hb⟩; refine ⟨_, rfl, ?_⟩; have n0_ := Aside0.mk (Kd.R_elder' (by (with_reducible skip); exact HO352.out) (Kd.R_base ho0) hb); have n1_ := Aside0.mk (Kd.R_below (by (with_reducible skip); exact HO355.out) hb); have n2_ := Aside0.mk (Kd.R_lower (Kd.R_new' ho0 (Kd.R_lt (by (with_reducible skip); exact HO352.out))) (below_size (Z.bs HB.out GE347.out))); have n3_ := Aside0.mk (blk_below (g := gb347) (o := .cells #[.int .i64 a0_0, .slice A0_1 l0_1.length c0_1, .slice A0_2 l0_2.length c0_2] 62 (0, 0)) (Z.bk BK347.out) hb); have n4_ := Aside0.mk (below_step (Z.bs HB.out GE347.out) hb); clear HO352; clear HO355; clear BK347; clear HB; have HO352 := n0_; have HO355 := n1_; have HO358 := n2_; have BK347 := n3_; have HB := n4_; clear n0_ n1_ n2_ n3_ n4_; (try clear hb); (try clear ho0); obtain ⟨Ao26, co26, eo26⟩ := Kd.R_slice HO352.out; subst eo26; obtain ⟨Ao27, co27, eo27⟩ := Kd.R_slice HO355.out; subst eo27; obtain ⟨Ao28, co28, eo28⟩ := Kd.R_slice HO358.out; subst eo28) | ((with_reducible refine gate_callee (f := 43) rfl ?_); refine goesL_ (some 31) rfl rfl Try.func43 (by kernel_rfl) rfl #[.agg #[.int .i64 t349, .slice Ao26 t350.length co26, .slice Ao27 t353.length co27], .slice Ao28 t356.length co28, .int .i64 a2, .int .i64 a3, .int .i64 a4] rfl Z.ar ?_; (with_reducible refine (spec_MayChange.calls k t349 _ _ t350 _ _ t353 _ _ t356 a2 a3 a4 t359 _ ?side1 ?side2 ?side3 ?side4 ?side5 ?side6 A15.out).mono ?_); (case side1 => repeat (exact (Kd.R_reads' HO352.out).2.2)); (case side2 => exact (Kd.R_reads' HO352.out).2.1); (case side3 => repeat (exact (Kd.R_reads' HO355.out).2.2)); (case side4 => exact (Kd.R_reads' HO355.out).2.1); (case side5 => repeat (exact (Kd.R_reads' HO358.out).2.2)); (case side6 => exact (Kd.R_reads' HO358.out).2.1); rintro e w29 ⟨rfl, hb⟩; refine ⟨_, rfl, ?_⟩; have n0_ := Aside0.mk (Kd.R_below (by (with_reducible skip); exact HO352.out) hb); have n1_ := Aside0.mk (Kd.R_below (by (with_reducible skip); exact HO355.out) hb); have n2_ := Aside0.mk (Kd.R_below (by (with_reducible skip); exact HO358.out) hb); have n3_ := Aside0.mk (blk_below (g := gb347) (o := .cells #[.int .i64 a0_0, .slice A0_1 l0_1.length c0_1, .slice A0_2 l0_2.length c0_2] 62 (0, 0)) (Z.bk BK347.out) hb); have n4_ := Aside0.mk (below_step (Z.bs HB.out GE347.out) hb); clear HO352; clear HO355; clear HO358; clear BK347; clear HB; have HO352 := n0_; have HO355 := n1_; have HO358 := n2_; have BK347 := n3_; have HB := n4_; clear n0_ n1_ n2_ n3_ n4_; (try clear hb); have hcz30_0 : w29.cell? ⟨gb347, 0, none⟩ = some (.int .i64 a0_0) := (blk_cell BK347.out 0).trans rfl; have hcz30_1 : w29.cell? ⟨gb347, 1, none⟩ = some (.slice A0_1 l0_1.length c0_1) := (blk_cell BK347.out 1).trans rfl; have hcz30_2 : w29.cell? ⟨gb347, 2, none⟩ = some (.slice A0_2 l0_2.length c0_2) := (blk_cell BK347.out 2).trans rfl; have hfz30_0 := blk_frozen BK347.out 0; have hfz30_1 := blk_frozen BK347.out 1; have hfz30_2 := blk_frozen BK347.out 2) | ((with_reducible refine gate_callee (f := 44) rfl ?_); refine goesL_ (some 33) rfl rfl Try.func44 (by kernel_rfl) rfl #[.agg #[.int .i64 a0_0, .slice A0_1 l0_1.length c0_1, .slice A0_2 l0_2.length c0_2]] rfl Z.ar ?_; (with_reducible refine (laws_toCharter.calls k a0_0 _ _ l0_1 _ _ l0_2 t360 t361 t364 _ ?side1 ?side2 ?side3 ?side4 A16.out).mono ?_); (case side1 => exact Z.cb (Kd.C_below HR0_1.out HB.out)); (case side2 => exact HC0_1.out); (case side3 => exact Z.cb (Kd.C_below HR0_2.out HB.out)); (case side4 => exact HC0_2.out); rintro e w31 ⟨v362, v365, rfl, ho0, ho1, hb⟩; refine ⟨_, rfl, ?_⟩; have n0_ := Aside0.mk (Kd.R_elder' (by (with_reducible skip); exact HO352.out) (Kd.R_base ho0) hb); have n1_ := Aside0.mk (Kd.R_elder' (by (with_reducible skip); exact HO355.out) (Kd.R_base ho1) hb); have n2_ := Aside0.mk (Kd.R_elder' (by (with_reducible skip); exact HO358.out) (Kd.R_base ho0) hb); have n3_ := Aside0.mk (Kd.R_lower (Kd.R_new' (Kd.R_new' ho0 (Kd.R_lt (by (with_reducible skip); exact HO352.out))) (Kd.R_lt (by (with_reducible skip); exact HO358.out))) (below_size (Z.bs HB.out GE347.out))); have n4_ := Aside0.mk (Kd.R_lower (Kd.R_new' ho1 (Kd.R_lt (by (with_reducible skip); exact HO355.out))) (below_size (Z.bs HB.out GE347.out))); have n5_ := Aside0.mk (blk_below (g := gb347) (o := .cells #[.int .i64 a0_0, .slice A0_1 l0_1.length c0_1, .slice A0_2 l0_2.length c0_2] 62 (0, 0)) (Z.bk BK347.out) hb); have n6_ := Aside0.mk (below_step (Z.bs HB.out GE347.out) hb); clear HO352; clear HO355; clear HO358; clear BK347; clear HB; have HO352 := n0_; have HO355 := n1_; have HO358 := n2_; have HO363 := n3_; have HO366 := n4_; have BK347 := n5_; have HB := n6_; clear n0_ n1_ n2_ n3_ n4_ n5_ n6_; (try clear hb); (try clear ho0); (try clear ho1)) | ((with_reducible refine gate_dst (N := 13) rfl ?_); refine box_event ?hg (N := 13) ?hd (cs := #[.int .i64 0, .slice none 0 0, .slice none 0 0]) (t := 67) ?hr ?_; (case hd => rfl); (case hg => rfl); (case hr => (go_simp; done)); intro gb367 hg w32 hbox hb; have n0_ := Aside0.mk (Kd.R_below (by (with_reducible skip); exact HO352.out) hb); have n1_ := Aside0.mk (Kd.R_below (by (with_reducible skip); exact HO355.out) hb); have n2_ := Aside0.mk (Kd.R_below (by (with_reducible skip); exact HO358.out) hb); have n3_ := Aside0.mk (Kd.R_below (by (with_reducible skip); exact HO363.out) hb); have n4_ := Aside0.mk (Kd.R_below (by (with_reducible skip); exact HO366.out) hb); have n5_ := Aside0.mk (blk_below (g := gb347) (o := .cells #[.int .i64 a0_0, .slice A0_1 l0_1.length c0_1, .slice A0_2 l0_2.length c0_2] 62 (0, 0)) (Z.bk BK347.out) hb); have n6_ := Aside0.mk (below_step (Z.bs HB.out GE347.out) hb); have n7_ := Aside0.mk (hbox); have n8_ := Aside0.mk ((by rw [hg]; exact (below_size (Z.bs HB.out GE347.out)) : w.heap.size ≤ gb367)); have n9_ := Aside0.mk ((by rw [hg]; exact (below_size (Z.bs HB.out GE347.out)) : w.heap.size ≤ gb367)); have n10_ := Aside0.mk ((by rw [hg]; exact Nat.ne_of_lt (blk_lt (g := gb347) (o := .cells #[.int .i64 a0_0, .slice A0_1 l0_1.length c0_1, .slice A0_2 l0_2.length c0_2] 62 (0, 0)) (Z.bk BK347.out)) : gb347 ≠ gb367)); have n11_ := Aside0.mk ((by rw [hg]; exact Nat.ne_of_gt (blk_lt (g := gb347) (o := .cells #[.int .i64 a0_0, .slice A0_1 l0_1.length c0_1, .slice A0_2 l0_2.length c0_2] 62 (0, 0)) (Z.bk BK347.out)) : gb367 ≠ gb347)); clear HO352; clear HO355; clear HO358; clear HO363; clear HO366; clear BK347; clear HB; have HO352 := n0_; have HO355 := n1_; have HO358 := n2_; have HO363 := n3_; have HO366 := n4_; have BK347 := n5_; have HB := n6_; have BK367 := n7_; have GW367 := n8_; have GE367 := n9_; have NB347_367 := n10_; have NB367_347 := n11_; clear n0_ n1_ n2_ n3_ n4_ n5_ n6_ n7_ n8_ n9_ n10_ n11_; clear hb hbox hg; have hnb33 := NB367_347.out; have hnc33 := NB347_367.out; have hcz34_0 : w32.cell? ⟨gb367, 0, none⟩ = some (.int .i64 0) := (blk_cell BK367.out 0).trans rfl; have hcz34_1 : w32.cell? ⟨gb367, 1, none⟩ = some (.slice none 0 0) := (blk_cell BK367.out 1).trans rfl; have hcz34_2 : w32.cell? ⟨gb367, 2, none⟩ = some (.slice none 0 0) := (blk_cell BK367.out 2).trans rfl; have hfz34_0 := blk_frozen BK367.out 0; have hfz34_1 := blk_frozen BK367.out 1; have hfz34_2 := blk_frozen BK367.out 2; obtain ⟨Ao35, co35, eo35⟩ := Kd.R_slice HO363.out; subst eo35; obtain ⟨Ao36, co36, eo36⟩ := Kd.R_slice HO366.out; subst eo36) | ((with_reducible refine gate_callee (f := 45) rfl ?_); refine goesL_ (some 35) rfl rfl Try.func45 (by kernel_rfl) rfl #[.slice A1 l1.length c1] rfl Z.ar ?_; (with_reducible refine (laws_toIntS.calls k _ _ l1 t368 _ ?side1 ?side2 A17.out).mono ?_); (case side1 => exact Kd.C_below HR1.out (by repeat ((with_reducible first | exact HB.out | refine below_set ?_ GE367.out)))); (case side2 => exact HC1.out); rintro e w37 ⟨v369, rfl, ho0, hb⟩; refine ⟨_, rfl, ?_⟩; have n0_ := Aside0.mk (Kd.R_elder' (by (with_reducible skip); exact (Kd.R_mono (Kd.R_far (p := ⟨gb367, 2, none⟩) (Kd.R_far (p := ⟨gb367, 1, none⟩) (Kd.R_far (p := ⟨gb367, 0, none⟩) (Kd.R_types HO352.out BK367.out (by decide)) (fun _ hk => hk.2) (.int .i64 t360)) (fun _ hk => hk.2) (.slice Ao35 t361.length co35)) (fun _ hk => hk.2) (.slice Ao36 t364.length co36)) (fun _ h_ => h_.1))) (Kd.R_base ho0) hb); have n1_ := Aside0.mk (Kd.R_below (by (with_reducible skip); exact (Kd.R_mono (Kd.R_far (p := ⟨gb367, 2, none⟩) (Kd.R_far (p := ⟨gb367, 1, none⟩) (Kd.R_far (p := ⟨gb367, 0, none⟩) (Kd.R_types HO355.out BK367.out (by decide)) (fun _ hk => hk.2) (.int .i64 t360)) (fun _ hk => hk.2) (.slice Ao35 t361.length co35)) (fun _ hk => hk.2) (.slice Ao36 t364.length co36)) (fun _ h_ => h_.1))) hb); have n2_ := Aside0.mk (Kd.R_elder' (by (with_reducible skip); exact (Kd.R_mono (Kd.R_far (p := ⟨gb367, 2, none⟩) (Kd.R_far (p := ⟨gb367, 1, none⟩) (Kd.R_far (p := ⟨gb367, 0, none⟩) (Kd.R_types HO358.out BK367.out (by decide)) (fun _ hk => hk.2) (.int .i64 t360)) (fun _ hk => hk.2) (.slice Ao35 t361.length co35)) (fun _ hk => hk.2) (.slice Ao36 t364.length co36)) (fun _ h_ => h_.1))) (Kd.R_base ho0) hb); have n3_ := Aside0.mk (Kd.R_elder' (by (with_reducible skip); exact (Kd.R_mono (Kd.R_far (p := ⟨gb367, 2, none⟩) (Kd.R_far (p := ⟨gb367, 1, none⟩) (Kd.R_far (p := ⟨gb367, 0, none⟩) (Kd.R_types HO363.out BK367.out (by decide)) (fun _ hk => hk.2) (.int .i64 t360)) (fun _ hk => hk.2) (.slice Ao35 t361.length co35)) (fun _ hk => hk.2) (.slice Ao36 t364.length co36)) (fun _ h_ => h_.1))) (Kd.R_base ho0) hb); have n4_ := Aside0.mk (Kd.R_below (by (with_reducible skip); exact (Kd.R_mono (Kd.R_far (p := ⟨gb367, 2, none⟩) (Kd.R_far (p := ⟨gb367, 1, none⟩) (Kd.R_far (p := ⟨gb367, 0, none⟩) (Kd.R_types HO366.out BK367.out (by decide)) (fun _ hk => hk.2) (.int .i64 t360)) (fun _ hk => hk.2) (.slice Ao35 t361.length co35)) (fun _ hk => hk.2) (.slice Ao36 t364.length co36)) (fun _ h_ => h_.1))) hb); have n5_ := Aside0.mk (Kd.R_lower (Kd.R_new' (Kd.R_new' (Kd.R_new' ho0 (Kd.R_lt (by (with_reducible skip); exact (Kd.R_mono (Kd.R_far (p := ⟨gb367, 2, none⟩) (Kd.R_far (p := ⟨gb367, 1, none⟩) (Kd.R_far (p := ⟨gb367, 0, none⟩) (Kd.R_types HO352.out BK367.out (by decide)) (fun _ hk => hk.2) (.int .i64 t360)) (fun _ hk => hk.2) (.slice Ao35 t361.length co35)) (fun _ hk => hk.2) (.slice Ao36 t364.length co36)) (fun _ h_ => h_.1))))) (Kd.R_lt (by (with_reducible skip); exact (Kd.R_mono (Kd.R_far (p := ⟨gb367, 2, none⟩) (Kd.R_far (p := ⟨gb367, 1, none⟩) (Kd.R_far (p := ⟨gb367, 0, none⟩) (Kd.R_types HO358.out BK367.out (by decide)) (fun _ hk => hk.2) (.int .i64 t360)) (fun _ hk => hk.2) (.slice Ao35 t361.length co35)) (fun _ hk => hk.2) (.slice Ao36 t364.length co36)) (fun _ h_ => h_.1))))) (Kd.R_lt (by (with_reducible skip); exact (Kd.R_mono (Kd.R_far (p := ⟨gb367, 2, none⟩) (Kd.R_far (p := ⟨gb367, 1, none⟩) (Kd.R_far (p := ⟨gb367, 0, none⟩) (Kd.R_types HO363.out BK367.out (by decide)) (fun _ hk => hk.2) (.int .i64 t360)) (fun _ hk => hk.2) (.slice Ao35 t361.length co35)) (fun _ hk => hk.2) (.slice Ao36 t364.length co36)) (fun _ h_ => h_.1))))) (below_size (by repeat ((with_reducible first | exact HB.out | refine below_set ?_ GE367.out))))); have n6_ := Aside0.mk (blk_below (g := gb347) (o := .cells #[.int .i64 a0_0, .slice A0_1 l0_1.length c0_1, .slice A0_2 l0_2.length c0_2] 62 (0, 0)) (by (with_reducible skip); refine blk_far ?_ NB347_367.out _; (with_reducible skip); refine blk_far ?_ NB347_367.out _; (with_reducible skip); refine blk_far ?_ NB347_367.out _; (with_reducible skip); exact BK347.out) hb); have n7_ := Aside0.mk (blk_below (g := gb367) (o := .cells #[.int .i64 t360, .slice Ao35 t361.length co35, .slice Ao36 t364.length co36] 67 (0, 0)) (by (with_reducible skip); refine blk_put (cs := #[.int .i64 t360, .slice Ao35 t361.length co35, .slice none 0 0]) ?_ 2 _ rfl; (with_reducible skip); refine blk_put (cs := #[.int .i64 t360, .slice none 0 0, .slice none 0 0]) ?_ 1 _ rfl; (with_reducible skip); refine blk_put (cs := #[.int .i64 0, .slice none 0 0, .slice none 0 0]) ?_ 0 _ rfl; (with_reducible skip); exact BK367.out) hb); have n8_ := Aside0.mk (below_step (by repeat ((with_reducible first | exact HB.out | refine below_set ?_ GE367.out))) hb); clear HO352; clear HO355; clear HO358; clear HO363; clear HO366; clear BK347; clear BK367; clear HB; have HO352 := n0_; have HO355 := n1_; have HO358 := n2_; have HO363 := n3_; have HO366 := n4_; have HO370 := n5_; have BK347 := n6_; have BK367 := n7_; have HB := n8_; clear n0_ n1_ n2_ n3_ n4_ n5_ n6_ n7_ n8_; (try clear hb); (try clear ho0); have hcz38_0 : w37.cell? ⟨gb367, 0, none⟩ = some (.int .i64 t360) := (blk_cell BK367.out 0).trans rfl; have hcz38_1 : w37.cell? ⟨gb367, 1, none⟩ = some (.slice Ao35 t361.length co35) := (blk_cell BK367.out 1).trans rfl; have hcz38_2 : w37.cell? ⟨gb367, 2, none⟩ = some (.slice Ao36 t364.length co36) := (blk_cell BK367.out 2).trans rfl; have hfz38_0 := blk_frozen BK367.out 0; have hfz38_1 := blk_frozen BK367.out 1; have hfz38_2 := blk_frozen BK367.out 2; obtain ⟨Ao39, co39, eo39⟩ := Kd.R_slice HO370.out; subst eo39) | ((with_reducible refine gate_callee (f := 46) rfl ?_); refine goesL_ (some 41) rfl rfl Try.func46 (by kernel_rfl) rfl #[.agg #[.int .i64 t360, .slice Ao35 t361.length co35, .slice Ao36 t364.length co36], .slice Ao39 t368.length co39, .int .i64 a2, .int .i64 a3, .int .i64 a4] rfl Z.ar ?_; (with_reducible refine (impl_MayChange.calls k t360 _ _ t361 _ _ t364 _ _ t368 a2 a3 a4 t371 _ ?side1 ?side2 ?side3 ?side4 ?side5 ?side6 A18.out).mono ?_); (case side1 => repeat (exact (Kd.R_reads' HO363.out).2.2)); (case side2 => exact (Kd.R_reads' HO363.out).2.1); (case side3 => repeat (exact (Kd.R_reads' HO366.out).2.2)); (case side4 => exact (Kd.R_reads' HO366.out).2.1); (case side5 => repeat (exact (Kd.R_reads' HO370.out).2.2)); (case side6 => exact (Kd.R_reads' HO370.out).2.1); rintro e w40 ⟨rfl, hb⟩; refine ⟨_, rfl, ?_⟩; have n0_ := Aside0.mk (Kd.R_below (by (with_reducible skip); exact HO352.out) hb); have n1_ := Aside0.mk (Kd.R_below (by (with_reducible skip); exact HO355.out) hb); have n2_ := Aside0.mk (Kd.R_below (by (with_reducible skip); exact HO358.out) hb); have n3_ := Aside0.mk (Kd.R_below (by (with_reducible skip); exact HO363.out) hb); have n4_ := Aside0.mk (Kd.R_below (by (with_reducible skip); exact HO366.out) hb); have n5_ := Aside0.mk (Kd.R_below (by (with_reducible skip); exact HO370.out) hb); have n6_ := Aside0.mk (blk_below (g := gb347) (o := .cells #[.int .i64 a0_0, .slice A0_1 l0_1.length c0_1, .slice A0_2 l0_2.length c0_2] 62 (0, 0)) (Z.bk BK347.out) hb); have n7_ := Aside0.mk (blk_below (g := gb367) (o := .cells #[.int .i64 t360, .slice Ao35 t361.length co35, .slice Ao36 t364.length co36] 67 (0, 0)) (Z.bk BK367.out) hb); have n8_ := Aside0.mk (below_step (by repeat ((with_reducible exact HB.out))) hb); clear HO352; clear HO355; clear HO358; clear HO363; clear HO366; clear HO370; clear BK347; clear BK367; clear HB; have HO352 := n0_; have HO355 := n1_; have HO358 := n2_; have HO363 := n3_; have HO366 := n4_; have HO370 := n5_; have BK347 := n6_; have BK367 := n7_; have HB := n8_; clear n0_ n1_ n2_ n3_ n4_ n5_ n6_ n7_ n8_; (try clear hb)))
    go_ret
    exact ⟨by rfl, by repeat ((with_reducible exact HB.out))⟩
   ·rw [if_neg c19] at H
    have c19b0 : (t371 != t359) = false := by simpa using c19
    (try (have c19b1 : decide (t371 = t359) = true := by simpa using c19))
    (try (have c19b2 : (t371 == t359) = true := by simpa using c19))
    clear c19
    replace H := Option.bind_eq_some_iff.mp H
    obtain ⟨⟨t372, t373, t376⟩, A410, H⟩ := H
    replace H : ((laws_eqCharter.f k t360 t361 t364 t372 t373 t376).bind fun t379 => (if t379 = true then ((laws_toIntS.f k l1).bind fun t380 => ((laws_eqIntS.f k t368 t380).bind fun t383 => (if t383 = true then (some true) else (some false)))) else (some false))) = some r := H
    have A41 := Aside0.mk A410
    clear A410
    replace H := Option.bind_eq_some_iff.mp H
    obtain ⟨t379, A420, H⟩ := H
    replace H : (if t379 = true then ((laws_toIntS.f k l1).bind fun t380 => ((laws_eqIntS.f k t368 t380).bind fun t383 => (if t383 = true then (some true) else (some false)))) else (some false)) = some r := H
    have A42 := Aside0.mk A420
    clear A420
    by_cases c43 : t379 = true
    ·subst c43
     have H1 : ((laws_toIntS.f k l1).bind fun t380 => ((laws_eqIntS.f k t368 t380).bind fun t383 => (if t383 = true then (some true) else (some false)))) = some r := by rw [if_pos rfl] at H; exact H
     clear H
     have H := H1
     clear H1
     replace H := Option.bind_eq_some_iff.mp H
     obtain ⟨t380, A440, H⟩ := H
     replace H : ((laws_eqIntS.f k t368 t380).bind fun t383 => (if t383 = true then (some true) else (some false))) = some r := H
     have A44 := Aside0.mk A440
     clear A440
     replace H := Option.bind_eq_some_iff.mp H
     obtain ⟨t383, A450, H⟩ := H
     replace H : (if t383 = true then (some true) else (some false)) = some r := H
     have A45 := Aside0.mk A450
     clear A450
     by_cases c46 : t383 = true
     ·subst c46
      have H1 : (some true) = some r := by rw [if_pos rfl] at H; exact H
      clear H
      have H := H1
      clear H1
      obtain rfl := Option.some.inj H
      go_enter Try.func9, Try.ntmps9
      try go_wp2_with (first | ((with_reducible refine gate_dst (N := 5) rfl ?_); refine box_event ?hg (N := 5) ?hd (cs := #[.int .i64 a0_0, .slice A0_1 l0_1.length c0_1, .slice A0_2 l0_2.length c0_2]) (t := 62) ?hr ?_; (case hd => rfl); (case hg => rfl); (case hr => (go_simp; done)); intro gb347 hg w47 hbox hb; have n0_ := Aside0.mk (below_step (Z.bl HB.out) hb); have n1_ := Aside0.mk (hbox); have n2_ := Aside0.mk ((by rw [hg]; exact (below_size (Z.bl HB.out)) : w.heap.size ≤ gb347)); have n3_ := Aside0.mk ((by rw [hg]; exact (below_size (Z.bl HB.out)) : w.heap.size ≤ gb347)); clear HB; have HB := n0_; have BK347 := n1_; have GW347 := n2_; have GE347 := n3_; clear n0_ n1_ n2_ n3_; clear hb hbox hg; have hcz48_0 : w47.cell? ⟨gb347, 0, none⟩ = some (.int .i64 a0_0) := (blk_cell BK347.out 0).trans rfl; have hcz48_1 : w47.cell? ⟨gb347, 1, none⟩ = some (.slice A0_1 l0_1.length c0_1) := (blk_cell BK347.out 1).trans rfl; have hcz48_2 : w47.cell? ⟨gb347, 2, none⟩ = some (.slice A0_2 l0_2.length c0_2) := (blk_cell BK347.out 2).trans rfl; have hfz48_0 := blk_frozen BK347.out 0; have hfz48_1 := blk_frozen BK347.out 1; have hfz48_2 := blk_frozen BK347.out 2) | ((with_reducible refine gate_callee (f := 42) rfl ?_); refine goesL_ (some 21) rfl rfl Try.func42 (by kernel_rfl) rfl #[.agg #[.int .i64 a0_0, .slice A0_1 l0_1.length c0_1, .slice A0_2 l0_2.length c0_2], .int .i64 1048576] rfl Z.ar ?_; (with_reducible refine (laws_szCharter.calls k a0_0 _ _ l0_1 _ _ l0_2 1048576 t348 _ ?side1 ?side2 ?side3 ?side4 A8.out).mono ?_); (case side1 => exact Z.cb (Kd.C_below HR0_1.out HB.out)); (case side2 => exact HC0_1.out); (case side3 => exact Z.cb (Kd.C_below HR0_2.out HB.out)); (case side4 => exact HC0_2.out); rintro e w49 ⟨rfl, hb⟩; refine ⟨_, rfl, ?_⟩; have n0_ := Aside0.mk (blk_below (g := gb347) (o := .cells #[.int .i64 a0_0, .slice A0_1 l0_1.length c0_1, .slice A0_2 l0_2.length c0_2] 62 (0, 0)) (Z.bk BK347.out) hb); have n1_ := Aside0.mk (below_step (Z.bs HB.out GE347.out) hb); clear BK347; clear HB; have BK347 := n0_; have HB := n1_; clear n0_ n1_; (try clear hb); have hcz50_0 : w49.cell? ⟨gb347, 0, none⟩ = some (.int .i64 a0_0) := (blk_cell BK347.out 0).trans rfl; have hcz50_1 : w49.cell? ⟨gb347, 1, none⟩ = some (.slice A0_1 l0_1.length c0_1) := (blk_cell BK347.out 1).trans rfl; have hcz50_2 : w49.cell? ⟨gb347, 2, none⟩ = some (.slice A0_2 l0_2.length c0_2) := (blk_cell BK347.out 2).trans rfl; have hfz50_0 := blk_frozen BK347.out 0; have hfz50_1 := blk_frozen BK347.out 1; have hfz50_2 := blk_frozen BK347.out 2) | ((with_reducible refine gate_callee (f := 44) rfl ?_); refine goesL_ (some 25) rfl rfl Try.func44 (by kernel_rfl) rfl #[.agg #[.int .i64 a0_0, .slice A0_1 l0_1.length c0_1, .slice A0_2 l0_2.length c0_2]] rfl Z.ar ?_; (with_reducible refine (laws_toCharter.calls k a0_0 _ _ l0_1 _ _ l0_2 t349 t350 t353 _ ?side1 ?side2 ?side3 ?side4 A13.out).mono ?_); (case side1 => exact Z.cb (Kd.C_below HR0_1.out HB.out)); (case side2 => exact HC0_1.out); (case side3 => exact Z.cb (Kd.C_below HR0_2.out HB.out)); (case side4 => exact HC0_2.out); rintro e w51 ⟨v351, v354, rfl, ho0, ho1, hb⟩; refine ⟨_, rfl, ?_⟩; have n0_ := Aside0.mk (Kd.R_lower ho0 (below_size (Z.bs HB.out GE347.out))); have n1_ := Aside0.mk (Kd.R_lower ho1 (below_size (Z.bs HB.out GE347.out))); have n2_ := Aside0.mk (blk_below (g := gb347) (o := .cells #[.int .i64 a0_0, .slice A0_1 l0_1.length c0_1, .slice A0_2 l0_2.length c0_2] 62 (0, 0)) (Z.bk BK347.out) hb); have n3_ := Aside0.mk (below_step (Z.bs HB.out GE347.out) hb); clear BK347; clear HB; have HO352 := n0_; have HO355 := n1_; have BK347 := n2_; have HB := n3_; clear n0_ n1_ n2_ n3_; (try clear hb); (try clear ho0); (try clear ho1)) | ((with_reducible refine gate_callee (f := 45) rfl ?_); refine goesL_ (some 27) rfl rfl Try.func45 (by kernel_rfl) rfl #[.slice A1 l1.length c1] rfl Z.ar ?_; (with_reducible refine (laws_toIntS.calls k _ _ l1 t356 _ ?side1 ?side2 A14.out).mono ?_); (case side1 => exact Z.cb (Kd.C_below HR1.out HB.out)); (case side2 => exact HC1.out); rintro e w52 ⟨v357, rfl, ho0, hb⟩; refine ⟨_, rfl, ?_⟩; have n0_ := Aside0.mk (Kd.R_elder' (by (with_reducible skip); exact HO352.out) (Kd.R_base ho0) hb); have n1_ := Aside0.mk (Kd.R_below (by (with_reducible skip); exact HO355.out) hb); have n2_ := Aside0.mk (Kd.R_lower (Kd.R_new' ho0 (Kd.R_lt (by (with_reducible skip); exact HO352.out))) (below_size (Z.bs HB.out GE347.out))); have n3_ := Aside0.mk (blk_below (g := gb347) (o := .cells #[.int .i64 a0_0, .slice A0_1 l0_1.length c0_1, .slice A0_2 l0_2.length c0_2] 62 (0, 0)) (Z.bk BK347.out) hb); have n4_ := Aside0.mk (below_step (Z.bs HB.out GE347.out) hb); clear HO352; clear HO355; clear BK347; clear HB; have HO352 := n0_; have HO355 := n1_; have HO358 := n2_; have BK347 := n3_; have HB := n4_; clear n0_ n1_ n2_ n3_ n4_; (try clear hb); (try clear ho0); obtain ⟨Ao53, co53, eo53⟩ := Kd.R_slice HO352.out; subst eo53; obtain ⟨Ao54, co54, eo54⟩ := Kd.R_slice HO355.out; subst eo54; obtain ⟨Ao55, co55, eo55⟩ := Kd.R_slice HO358.out; subst eo55) | ((with_reducible refine gate_callee (f := 43) rfl ?_); refine goesL_ (some 31) rfl rfl Try.func43 (by kernel_rfl) rfl #[.agg #[.int .i64 t349, .slice Ao53 t350.length co53, .slice Ao54 t353.length co54], .slice Ao55 t356.length co55, .int .i64 a2, .int .i64 a3, .int .i64 a4] rfl Z.ar ?_; (with_reducible refine (spec_MayChange.calls k t349 _ _ t350 _ _ t353 _ _ t356 a2 a3 a4 t359 _ ?side1 ?side2 ?side3 ?side4 ?side5 ?side6 A15.out).mono ?_); (case side1 => repeat (exact (Kd.R_reads' HO352.out).2.2)); (case side2 => exact (Kd.R_reads' HO352.out).2.1); (case side3 => repeat (exact (Kd.R_reads' HO355.out).2.2)); (case side4 => exact (Kd.R_reads' HO355.out).2.1); (case side5 => repeat (exact (Kd.R_reads' HO358.out).2.2)); (case side6 => exact (Kd.R_reads' HO358.out).2.1); rintro e w56 ⟨rfl, hb⟩; refine ⟨_, rfl, ?_⟩; have n0_ := Aside0.mk (Kd.R_below (by (with_reducible skip); exact HO352.out) hb); have n1_ := Aside0.mk (Kd.R_below (by (with_reducible skip); exact HO355.out) hb); have n2_ := Aside0.mk (Kd.R_below (by (with_reducible skip); exact HO358.out) hb); have n3_ := Aside0.mk (blk_below (g := gb347) (o := .cells #[.int .i64 a0_0, .slice A0_1 l0_1.length c0_1, .slice A0_2 l0_2.length c0_2] 62 (0, 0)) (Z.bk BK347.out) hb); have n4_ := Aside0.mk (below_step (Z.bs HB.out GE347.out) hb); clear HO352; clear HO355; clear HO358; clear BK347; clear HB; have HO352 := n0_; have HO355 := n1_; have HO358 := n2_; have BK347 := n3_; have HB := n4_; clear n0_ n1_ n2_ n3_ n4_; (try clear hb); have hcz57_0 : w56.cell? ⟨gb347, 0, none⟩ = some (.int .i64 a0_0) := (blk_cell BK347.out 0).trans rfl; have hcz57_1 : w56.cell? ⟨gb347, 1, none⟩ = some (.slice A0_1 l0_1.length c0_1) := (blk_cell BK347.out 1).trans rfl; have hcz57_2 : w56.cell? ⟨gb347, 2, none⟩ = some (.slice A0_2 l0_2.length c0_2) := (blk_cell BK347.out 2).trans rfl; have hfz57_0 := blk_frozen BK347.out 0; have hfz57_1 := blk_frozen BK347.out 1; have hfz57_2 := blk_frozen BK347.out 2) | ((with_reducible refine gate_callee (f := 44) rfl ?_); refine goesL_ (some 33) rfl rfl Try.func44 (by kernel_rfl) rfl #[.agg #[.int .i64 a0_0, .slice A0_1 l0_1.length c0_1, .slice A0_2 l0_2.length c0_2]] rfl Z.ar ?_; (with_reducible refine (laws_toCharter.calls k a0_0 _ _ l0_1 _ _ l0_2 t360 t361 t364 _ ?side1 ?side2 ?side3 ?side4 A16.out).mono ?_); (case side1 => exact Z.cb (Kd.C_below HR0_1.out HB.out)); (case side2 => exact HC0_1.out); (case side3 => exact Z.cb (Kd.C_below HR0_2.out HB.out)); (case side4 => exact HC0_2.out); rintro e w58 ⟨v362, v365, rfl, ho0, ho1, hb⟩; refine ⟨_, rfl, ?_⟩; have n0_ := Aside0.mk (Kd.R_elder' (by (with_reducible skip); exact HO352.out) (Kd.R_base ho0) hb); have n1_ := Aside0.mk (Kd.R_elder' (by (with_reducible skip); exact HO355.out) (Kd.R_base ho1) hb); have n2_ := Aside0.mk (Kd.R_elder' (by (with_reducible skip); exact HO358.out) (Kd.R_base ho0) hb); have n3_ := Aside0.mk (Kd.R_lower (Kd.R_new' (Kd.R_new' ho0 (Kd.R_lt (by (with_reducible skip); exact HO352.out))) (Kd.R_lt (by (with_reducible skip); exact HO358.out))) (below_size (Z.bs HB.out GE347.out))); have n4_ := Aside0.mk (Kd.R_lower (Kd.R_new' ho1 (Kd.R_lt (by (with_reducible skip); exact HO355.out))) (below_size (Z.bs HB.out GE347.out))); have n5_ := Aside0.mk (blk_below (g := gb347) (o := .cells #[.int .i64 a0_0, .slice A0_1 l0_1.length c0_1, .slice A0_2 l0_2.length c0_2] 62 (0, 0)) (Z.bk BK347.out) hb); have n6_ := Aside0.mk (below_step (Z.bs HB.out GE347.out) hb); clear HO352; clear HO355; clear HO358; clear BK347; clear HB; have HO352 := n0_; have HO355 := n1_; have HO358 := n2_; have HO363 := n3_; have HO366 := n4_; have BK347 := n5_; have HB := n6_; clear n0_ n1_ n2_ n3_ n4_ n5_ n6_; (try clear hb); (try clear ho0); (try clear ho1)) | ((with_reducible refine gate_dst (N := 13) rfl ?_); refine box_event ?hg (N := 13) ?hd (cs := #[.int .i64 0, .slice none 0 0, .slice none 0 0]) (t := 67) ?hr ?_; (case hd => rfl); (case hg => rfl); (case hr => (go_simp; done)); intro gb367 hg w59 hbox hb; have n0_ := Aside0.mk (Kd.R_below (by (with_reducible skip); exact HO352.out) hb); have n1_ := Aside0.mk (Kd.R_below (by (with_reducible skip); exact HO355.out) hb); have n2_ := Aside0.mk (Kd.R_below (by (with_reducible skip); exact HO358.out) hb); have n3_ := Aside0.mk (Kd.R_below (by (with_reducible skip); exact HO363.out) hb); have n4_ := Aside0.mk (Kd.R_below (by (with_reducible skip); exact HO366.out) hb); have n5_ := Aside0.mk (blk_below (g := gb347) (o := .cells #[.int .i64 a0_0, .slice A0_1 l0_1.length c0_1, .slice A0_2 l0_2.length c0_2] 62 (0, 0)) (Z.bk BK347.out) hb); have n6_ := Aside0.mk (below_step (Z.bs HB.out GE347.out) hb); have n7_ := Aside0.mk (hbox); have n8_ := Aside0.mk ((by rw [hg]; exact (below_size (Z.bs HB.out GE347.out)) : w.heap.size ≤ gb367)); have n9_ := Aside0.mk ((by rw [hg]; exact (below_size (Z.bs HB.out GE347.out)) : w.heap.size ≤ gb367)); have n10_ := Aside0.mk ((by rw [hg]; exact Nat.ne_of_lt (blk_lt (g := gb347) (o := .cells #[.int .i64 a0_0, .slice A0_1 l0_1.length c0_1, .slice A0_2 l0_2.length c0_2] 62 (0, 0)) (Z.bk BK347.out)) : gb347 ≠ gb367)); have n11_ := Aside0.mk ((by rw [hg]; exact Nat.ne_of_gt (blk_lt (g := gb347) (o := .cells #[.int .i64 a0_0, .slice A0_1 l0_1.length c0_1, .slice A0_2 l0_2.length c0_2] 62 (0, 0)) (Z.bk BK347.out)) : gb367 ≠ gb347)); clear HO352; clear HO355; clear HO358; clear HO363; clear HO366; clear BK347; clear HB; have HO352 := n0_; have HO355 := n1_; have HO358 := n2_; have HO363 := n3_; have HO366 := n4_; have BK347 := n5_; have HB := n6_; have BK367 := n7_; have GW367 := n8_; have GE367 := n9_; have NB347_367 := n10_; have NB367_347 := n11_; clear n0_ n1_ n2_ n3_ n4_ n5_ n6_ n7_ n8_ n9_ n10_ n11_; clear hb hbox hg; have hnb60 := NB367_347.out; have hnc60 := NB347_367.out; have hcz61_0 : w59.cell? ⟨gb367, 0, none⟩ = some (.int .i64 0) := (blk_cell BK367.out 0).trans rfl; have hcz61_1 : w59.cell? ⟨gb367, 1, none⟩ = some (.slice none 0 0) := (blk_cell BK367.out 1).trans rfl; have hcz61_2 : w59.cell? ⟨gb367, 2, none⟩ = some (.slice none 0 0) := (blk_cell BK367.out 2).trans rfl; have hfz61_0 := blk_frozen BK367.out 0; have hfz61_1 := blk_frozen BK367.out 1; have hfz61_2 := blk_frozen BK367.out 2; obtain ⟨Ao62, co62, eo62⟩ := Kd.R_slice HO363.out; subst eo62; obtain ⟨Ao63, co63, eo63⟩ := Kd.R_slice HO366.out; subst eo63) | ((with_reducible refine gate_callee (f := 45) rfl ?_); refine goesL_ (some 35) rfl rfl Try.func45 (by kernel_rfl) rfl #[.slice A1 l1.length c1] rfl Z.ar ?_; (with_reducible refine (laws_toIntS.calls k _ _ l1 t368 _ ?side1 ?side2 A17.out).mono ?_); (case side1 => exact Kd.C_below HR1.out (by repeat ((with_reducible first | exact HB.out | refine below_set ?_ GE367.out)))); (case side2 => exact HC1.out); rintro e w64 ⟨v369, rfl, ho0, hb⟩; refine ⟨_, rfl, ?_⟩; have n0_ := Aside0.mk (Kd.R_elder' (by (with_reducible skip); exact (Kd.R_mono (Kd.R_far (p := ⟨gb367, 2, none⟩) (Kd.R_far (p := ⟨gb367, 1, none⟩) (Kd.R_far (p := ⟨gb367, 0, none⟩) (Kd.R_types HO352.out BK367.out (by decide)) (fun _ hk => hk.2) (.int .i64 t360)) (fun _ hk => hk.2) (.slice Ao62 t361.length co62)) (fun _ hk => hk.2) (.slice Ao63 t364.length co63)) (fun _ h_ => h_.1))) (Kd.R_base ho0) hb); have n1_ := Aside0.mk (Kd.R_below (by (with_reducible skip); exact (Kd.R_mono (Kd.R_far (p := ⟨gb367, 2, none⟩) (Kd.R_far (p := ⟨gb367, 1, none⟩) (Kd.R_far (p := ⟨gb367, 0, none⟩) (Kd.R_types HO355.out BK367.out (by decide)) (fun _ hk => hk.2) (.int .i64 t360)) (fun _ hk => hk.2) (.slice Ao62 t361.length co62)) (fun _ hk => hk.2) (.slice Ao63 t364.length co63)) (fun _ h_ => h_.1))) hb); have n2_ := Aside0.mk (Kd.R_elder' (by (with_reducible skip); exact (Kd.R_mono (Kd.R_far (p := ⟨gb367, 2, none⟩) (Kd.R_far (p := ⟨gb367, 1, none⟩) (Kd.R_far (p := ⟨gb367, 0, none⟩) (Kd.R_types HO358.out BK367.out (by decide)) (fun _ hk => hk.2) (.int .i64 t360)) (fun _ hk => hk.2) (.slice Ao62 t361.length co62)) (fun _ hk => hk.2) (.slice Ao63 t364.length co63)) (fun _ h_ => h_.1))) (Kd.R_base ho0) hb); have n3_ := Aside0.mk (Kd.R_elder' (by (with_reducible skip); exact (Kd.R_mono (Kd.R_far (p := ⟨gb367, 2, none⟩) (Kd.R_far (p := ⟨gb367, 1, none⟩) (Kd.R_far (p := ⟨gb367, 0, none⟩) (Kd.R_types HO363.out BK367.out (by decide)) (fun _ hk => hk.2) (.int .i64 t360)) (fun _ hk => hk.2) (.slice Ao62 t361.length co62)) (fun _ hk => hk.2) (.slice Ao63 t364.length co63)) (fun _ h_ => h_.1))) (Kd.R_base ho0) hb); have n4_ := Aside0.mk (Kd.R_below (by (with_reducible skip); exact (Kd.R_mono (Kd.R_far (p := ⟨gb367, 2, none⟩) (Kd.R_far (p := ⟨gb367, 1, none⟩) (Kd.R_far (p := ⟨gb367, 0, none⟩) (Kd.R_types HO366.out BK367.out (by decide)) (fun _ hk => hk.2) (.int .i64 t360)) (fun _ hk => hk.2) (.slice Ao62 t361.length co62)) (fun _ hk => hk.2) (.slice Ao63 t364.length co63)) (fun _ h_ => h_.1))) hb); have n5_ := Aside0.mk (Kd.R_lower (Kd.R_new' (Kd.R_new' (Kd.R_new' ho0 (Kd.R_lt (by (with_reducible skip); exact (Kd.R_mono (Kd.R_far (p := ⟨gb367, 2, none⟩) (Kd.R_far (p := ⟨gb367, 1, none⟩) (Kd.R_far (p := ⟨gb367, 0, none⟩) (Kd.R_types HO352.out BK367.out (by decide)) (fun _ hk => hk.2) (.int .i64 t360)) (fun _ hk => hk.2) (.slice Ao62 t361.length co62)) (fun _ hk => hk.2) (.slice Ao63 t364.length co63)) (fun _ h_ => h_.1))))) (Kd.R_lt (by (with_reducible skip); exact (Kd.R_mono (Kd.R_far (p := ⟨gb367, 2, none⟩) (Kd.R_far (p := ⟨gb367, 1, none⟩) (Kd.R_far (p := ⟨gb367, 0, none⟩) (Kd.R_types HO358.out BK367.out (by decide)) (fun _ hk => hk.2) (.int .i64 t360)) (fun _ hk => hk.2) (.slice Ao62 t361.length co62)) (fun _ hk => hk.2) (.slice Ao63 t364.length co63)) (fun _ h_ => h_.1))))) (Kd.R_lt (by (with_reducible skip); exact (Kd.R_mono (Kd.R_far (p := ⟨gb367, 2, none⟩) (Kd.R_far (p := ⟨gb367, 1, none⟩) (Kd.R_far (p := ⟨gb367, 0, none⟩) (Kd.R_types HO363.out BK367.out (by decide)) (fun _ hk => hk.2) (.int .i64 t360)) (fun _ hk => hk.2) (.slice Ao62 t361.length co62)) (fun _ hk => hk.2) (.slice Ao63 t364.length co63)) (fun _ h_ => h_.1))))) (below_size (by repeat ((with_reducible first | exact HB.out | refine below_set ?_ GE367.out))))); have n6_ := Aside0.mk (blk_below (g := gb347) (o := .cells #[.int .i64 a0_0, .slice A0_1 l0_1.length c0_1, .slice A0_2 l0_2.length c0_2] 62 (0, 0)) (by (with_reducible skip); refine blk_far ?_ NB347_367.out _; (with_reducible skip); refine blk_far ?_ NB347_367.out _; (with_reducible skip); refine blk_far ?_ NB347_367.out _; (with_reducible skip); exact BK347.out) hb); have n7_ := Aside0.mk (blk_below (g := gb367) (o := .cells #[.int .i64 t360, .slice Ao62 t361.length co62, .slice Ao63 t364.length co63] 67 (0, 0)) (by (with_reducible skip); refine blk_put (cs := #[.int .i64 t360, .slice Ao62 t361.length co62, .slice none 0 0]) ?_ 2 _ rfl; (with_reducible skip); refine blk_put (cs := #[.int .i64 t360, .slice none 0 0, .slice none 0 0]) ?_ 1 _ rfl; (with_reducible skip); refine blk_put (cs := #[.int .i64 0, .slice none 0 0, .slice none 0 0]) ?_ 0 _ rfl; (with_reducible skip); exact BK367.out) hb); have n8_ := Aside0.mk (below_step (by repeat ((with_reducible first | exact HB.out | refine below_set ?_ GE367.out))) hb); clear HO352; clear HO355; clear HO358; clear HO363; clear HO366; clear BK347; clear BK367; clear HB; have HO352 := n0_; have HO355 := n1_; have HO358 := n2_; have HO363 := n3_; have HO366 := n4_; have HO370 := n5_; have BK347 := n6_; have BK367 := n7_; have HB := n8_; clear n0_ n1_ n2_ n3_ n4_ n5_ n6_ n7_ n8_; (try clear hb); (try clear ho0); have hcz65_0 : w64.cell? ⟨gb367, 0, none⟩ = some (.int .i64 t360) := (blk_cell BK367.out 0).trans rfl; have hcz65_1 : w64.cell? ⟨gb367, 1, none⟩ = some (.slice Ao62 t361.length co62) := (blk_cell BK367.out 1).trans rfl; have hcz65_2 : w64.cell? ⟨gb367, 2, none⟩ = some (.slice Ao63 t364.length co63) := (blk_cell BK367.out 2).trans rfl; have hfz65_0 := blk_frozen BK367.out 0; have hfz65_1 := blk_frozen BK367.out 1; have hfz65_2 := blk_frozen BK367.out 2; obtain ⟨Ao66, co66, eo66⟩ := Kd.R_slice HO370.out; subst eo66) | ((with_reducible refine gate_callee (f := 46) rfl ?_); refine goesL_ (some 41) rfl rfl Try.func46 (by kernel_rfl) rfl #[.agg #[.int .i64 t360, .slice Ao62 t361.length co62, .slice Ao63 t364.length co63], .slice Ao66 t368.length co66, .int .i64 a2, .int .i64 a3, .int .i64 a4] rfl Z.ar ?_; (with_reducible refine (impl_MayChange.calls k t360 _ _ t361 _ _ t364 _ _ t368 a2 a3 a4 t371 _ ?side1 ?side2 ?side3 ?side4 ?side5 ?side6 A18.out).mono ?_); (case side1 => repeat (exact (Kd.R_reads' HO363.out).2.2)); (case side2 => exact (Kd.R_reads' HO363.out).2.1); (case side3 => repeat (exact (Kd.R_reads' HO366.out).2.2)); (case side4 => exact (Kd.R_reads' HO366.out).2.1); (case side5 => repeat (exact (Kd.R_reads' HO370.out).2.2)); (case side6 => exact (Kd.R_reads' HO370.out).2.1); rintro e w67 ⟨rfl, hb⟩; refine ⟨_, rfl, ?_⟩; have n0_ := Aside0.mk (Kd.R_below (by (with_reducible skip); exact HO352.out) hb); have n1_ := Aside0.mk (Kd.R_below (by (with_reducible skip); exact HO355.out) hb); have n2_ := Aside0.mk (Kd.R_below (by (with_reducible skip); exact HO358.out) hb); have n3_ := Aside0.mk (Kd.R_below (by (with_reducible skip); exact HO363.out) hb); have n4_ := Aside0.mk (Kd.R_below (by (with_reducible skip); exact HO366.out) hb); have n5_ := Aside0.mk (Kd.R_below (by (with_reducible skip); exact HO370.out) hb); have n6_ := Aside0.mk (blk_below (g := gb347) (o := .cells #[.int .i64 a0_0, .slice A0_1 l0_1.length c0_1, .slice A0_2 l0_2.length c0_2] 62 (0, 0)) (Z.bk BK347.out) hb); have n7_ := Aside0.mk (blk_below (g := gb367) (o := .cells #[.int .i64 t360, .slice Ao62 t361.length co62, .slice Ao63 t364.length co63] 67 (0, 0)) (Z.bk BK367.out) hb); have n8_ := Aside0.mk (below_step (by repeat ((with_reducible exact HB.out))) hb); clear HO352; clear HO355; clear HO358; clear HO363; clear HO366; clear HO370; clear BK347; clear BK367; clear HB; have HO352 := n0_; have HO355 := n1_; have HO358 := n2_; have HO363 := n3_; have HO366 := n4_; have HO370 := n5_; have BK347 := n6_; have BK367 := n7_; have HB := n8_; clear n0_ n1_ n2_ n3_ n4_ n5_ n6_ n7_ n8_; (try clear hb)))
      have n0_ := Aside0.mk (Kd.R_drew HO352.out)
      have n1_ := Aside0.mk (Kd.R_drew HO355.out)
      have n2_ := Aside0.mk (Kd.R_drew HO358.out)
      have n3_ := Aside0.mk (Kd.R_drew HO363.out)
      have n4_ := Aside0.mk (Kd.R_drew HO366.out)
      have n5_ := Aside0.mk (Kd.R_drew HO370.out)
      have n6_ := Aside0.mk (blk_drew BK347.out)
      have n7_ := Aside0.mk (blk_drew BK367.out)
      have n8_ := Aside0.mk (below_drew1 HB.out)
      clear HO352
      clear HO355
      clear HO358
      clear HO363
      clear HO366
      clear HO370
      clear BK347
      clear BK367
      clear HB
      have HO352 := n0_
      have HO355 := n1_
      have HO358 := n2_
      have HO363 := n3_
      have HO366 := n4_
      have HO370 := n5_
      have BK347 := n6_
      have BK367 := n7_
      have HB := n8_
      clear n0_ n1_ n2_ n3_ n4_ n5_ n6_ n7_ n8_
      refine start_ (n := 5) (S := fun w' => w'.cell? ⟨gb367, 0, none⟩ = some (.int .i64 t360) ∧ w'.cell? ⟨gb367, 1, none⟩ = some (.slice Ao62 t361.length co62) ∧ w'.cell? ⟨gb367, 2, none⟩ = some (.slice Ao63 t364.length co63) ∧ w'.cell? ⟨gb347, 0, none⟩ = some (.int .i64 a0_0) ∧ w'.cell? ⟨gb347, 1, none⟩ = some (.slice A0_1 l0_1.length c0_1) ∧ w'.cell? ⟨gb347, 2, none⟩ = some (.slice A0_2 l0_2.length c0_2)) (ds := []) #[false, false, false, false, false] (by kernel_rfl) rfl rfl ⟨(blk_cell BK367.out 0).trans rfl, (blk_cell BK367.out 1).trans rfl, (blk_cell BK367.out 2).trans rfl, (blk_cell BK347.out 0).trans rfl, (blk_cell BK347.out 1).trans rfl, (blk_cell BK347.out 2).trans rfl⟩ (fun hHeld => ?_)
      generalize w67.drew = w68 at HO352 HO355 HO358 HO363 HO366 HO370 BK347 BK367 HB hHeld ⊢
      refine take_ (i := 0) (N := some 45) (v := ?_) (a' := ?_) #[true, false, false, false, false] rfl rfl (by kernel_rfl) (fun _ _ _ h => h) (Or.inl ⟨by rfl, ?_⟩) hHeld ?_ ?_
      rotate_left
      ·rintro w' ⟨s0, s1, s2, s3, s4, s5⟩
       go_simp
       with_reducible rfl
      rotate_left
      ·simp only [Act.put, List.setIfInBounds_toArray, List.set_cons_zero, List.set_cons_succ, i64_w, i32_w]
       rfl
      refine take_ (i := 1) (N := some 46) (v := ?_) (a' := ?_) #[true, true, false, false, false] rfl rfl (by kernel_rfl) (fun _ _ _ h => h) (Or.inl ⟨by rfl, ?_⟩) hHeld ?_ ?_
      rotate_left
      ·rintro w' ⟨s0, s1, s2, s3, s4, s5⟩
       go_simp
       with_reducible rfl
      rotate_left
      ·simp only [Act.put, List.setIfInBounds_toArray, List.set_cons_zero, List.set_cons_succ, i64_w, i32_w]
       rfl
      refine one_ (i := 2) (N := some 47) (Z.mb 5 7) rfl rfl (by kernel_rfl) (by decide) (fun K hK => ?_)
      refine goes_ Try.func44 (by kernel_rfl) rfl #[.agg #[.int .i64 a0_0, .slice A0_1 l0_1.length c0_1, .slice A0_2 l0_2.length c0_2]] (by rfl) rfl rfl Z.ar ?_
      with_reducible refine (laws_toCharter.calls k a0_0 _ _ l0_1 _ _ l0_2 t372 t373 t376 _ ?side1 ?side2 ?side3 ?side4 A41.out).mono ?_
      (case side1 => exact Z.cb (Kd.C_below HR0_1.out HB.out))
      (case side2 => exact HC0_1.out)
      (case side3 => exact Z.cb (Kd.C_below HR0_2.out HB.out))
      (case side4 => exact HC0_2.out)
      rintro e w69 ⟨v374, v377, rfl, ho0, ho1, hb⟩
      refine ⟨_, rfl, ?_⟩
      have n0_ := Aside0.mk (Kd.R_elder' (by (with_reducible skip); exact HO352.out) (Kd.R_base ho0) hb)
      have n1_ := Aside0.mk (Kd.R_elder' (by (with_reducible skip); exact HO355.out) (Kd.R_base ho1) hb)
      have n2_ := Aside0.mk (Kd.R_elder' (by (with_reducible skip); exact HO358.out) (Kd.R_base ho0) hb)
      have n3_ := Aside0.mk (Kd.R_elder' (by (with_reducible skip); exact HO363.out) (Kd.R_base ho0) hb)
      have n4_ := Aside0.mk (Kd.R_elder' (by (with_reducible skip); exact HO366.out) (Kd.R_base ho1) hb)
      have n5_ := Aside0.mk (Kd.R_elder' (by (with_reducible skip); exact HO370.out) (Kd.R_base ho0) hb)
      have n6_ := Aside0.mk (Kd.R_lower (Kd.R_new' (Kd.R_new' (Kd.R_new' (Kd.R_new' ho0 (Kd.R_lt (by (with_reducible skip); exact HO352.out))) (Kd.R_lt (by (with_reducible skip); exact HO358.out))) (Kd.R_lt (by (with_reducible skip); exact HO363.out))) (Kd.R_lt (by (with_reducible skip); exact HO370.out))) (below_size (by repeat ((with_reducible exact HB.out)))))
      have n7_ := Aside0.mk (Kd.R_lower (Kd.R_new' (Kd.R_new' ho1 (Kd.R_lt (by (with_reducible skip); exact HO355.out))) (Kd.R_lt (by (with_reducible skip); exact HO366.out))) (below_size (by repeat ((with_reducible exact HB.out)))))
      have n8_ := Aside0.mk (blk_below (g := gb347) (o := .cells #[.int .i64 a0_0, .slice A0_1 l0_1.length c0_1, .slice A0_2 l0_2.length c0_2] 62 (0, 0)) (Z.bk BK347.out) hb)
      have n9_ := Aside0.mk (blk_below (g := gb367) (o := .cells #[.int .i64 t360, .slice Ao62 t361.length co62, .slice Ao63 t364.length co63] 67 (0, 0)) (Z.bk BK367.out) hb)
      have n10_ := Aside0.mk (below_step (by repeat ((with_reducible exact HB.out))) hb)
      clear HO352
      clear HO355
      clear HO358
      clear HO363
      clear HO366
      clear HO370
      clear BK347
      clear BK367
      clear HB
      have HO352 := n0_
      have HO355 := n1_
      have HO358 := n2_
      have HO363 := n3_
      have HO366 := n4_
      have HO370 := n5_
      have HO375 := n6_
      have HO378 := n7_
      have BK347 := n8_
      have BK367 := n9_
      have HB := n10_
      clear n0_ n1_ n2_ n3_ n4_ n5_ n6_ n7_ n8_ n9_ n10_
      (try clear hb)
      (try clear ho0)
      (try clear ho1)
      obtain ⟨Ao70, co70, eo70⟩ := Kd.R_slice HO375.out
      (subst eo70)
      obtain ⟨Ao71, co71, eo71⟩ := Kd.R_slice HO378.out
      (subst eo71)
      refine hK.out _ _ ⟨(blk_cell BK367.out 0).trans rfl, (blk_cell BK367.out 1).trans rfl, (blk_cell BK367.out 2).trans rfl, (blk_cell BK347.out 0).trans rfl, (blk_cell BK347.out 1).trans rfl, (blk_cell BK347.out 2).trans rfl⟩ (fun hHeld => ?_)
      clear hK K
      refine Z.nm ?_
      refine one_ (i := 3) (N := some 48) (Z.mb 5 15) rfl rfl (by kernel_rfl) (by decide) (fun K hK => ?_)
      refine goes_ Try.func47 (by kernel_rfl) rfl #[.agg #[.int .i64 t360, .slice Ao62 t361.length co62, .slice Ao63 t364.length co63], .agg #[.int .i64 t372, .slice Ao70 t373.length co70, .slice Ao71 t376.length co71]] (by rfl) rfl rfl Z.ar ?_
      with_reducible refine (laws_eqCharter.calls k t360 _ _ t361 _ _ t364 t372 _ _ t373 _ _ t376 true _ ?side1 ?side2 ?side3 ?side4 ?side5 ?side6 ?side7 ?side8 A42.out).mono ?_
      (case side1 => repeat (exact (Kd.R_reads' HO363.out).2.2))
      (case side2 => exact (Kd.R_reads' HO363.out).2.1)
      (case side3 => repeat (exact (Kd.R_reads' HO366.out).2.2))
      (case side4 => exact (Kd.R_reads' HO366.out).2.1)
      (case side5 => repeat (exact (Kd.R_reads' HO375.out).2.2))
      (case side6 => exact (Kd.R_reads' HO375.out).2.1)
      (case side7 => repeat (exact (Kd.R_reads' HO378.out).2.2))
      (case side8 => exact (Kd.R_reads' HO378.out).2.1)
      rintro e w72 ⟨rfl, hb⟩
      refine ⟨_, rfl, ?_⟩
      have n0_ := Aside0.mk (Kd.R_below (by (with_reducible skip); exact HO352.out) hb)
      have n1_ := Aside0.mk (Kd.R_below (by (with_reducible skip); exact HO355.out) hb)
      have n2_ := Aside0.mk (Kd.R_below (by (with_reducible skip); exact HO358.out) hb)
      have n3_ := Aside0.mk (Kd.R_below (by (with_reducible skip); exact HO363.out) hb)
      have n4_ := Aside0.mk (Kd.R_below (by (with_reducible skip); exact HO366.out) hb)
      have n5_ := Aside0.mk (Kd.R_below (by (with_reducible skip); exact HO370.out) hb)
      have n6_ := Aside0.mk (Kd.R_below (by (with_reducible skip); exact HO375.out) hb)
      have n7_ := Aside0.mk (Kd.R_below (by (with_reducible skip); exact HO378.out) hb)
      have n8_ := Aside0.mk (blk_below (g := gb347) (o := .cells #[.int .i64 a0_0, .slice A0_1 l0_1.length c0_1, .slice A0_2 l0_2.length c0_2] 62 (0, 0)) (Z.bk BK347.out) hb)
      have n9_ := Aside0.mk (blk_below (g := gb367) (o := .cells #[.int .i64 t360, .slice Ao62 t361.length co62, .slice Ao63 t364.length co63] 67 (0, 0)) (Z.bk BK367.out) hb)
      have n10_ := Aside0.mk (below_step (by repeat ((with_reducible exact HB.out))) hb)
      clear HO352
      clear HO355
      clear HO358
      clear HO363
      clear HO366
      clear HO370
      clear HO375
      clear HO378
      clear BK347
      clear BK367
      clear HB
      have HO352 := n0_
      have HO355 := n1_
      have HO358 := n2_
      have HO363 := n3_
      have HO366 := n4_
      have HO370 := n5_
      have HO375 := n6_
      have HO378 := n7_
      have BK347 := n8_
      have BK367 := n9_
      have HB := n10_
      clear n0_ n1_ n2_ n3_ n4_ n5_ n6_ n7_ n8_ n9_ n10_
      (try clear hb)
      refine hK.out _ _ ⟨(blk_cell BK367.out 0).trans rfl, (blk_cell BK367.out 1).trans rfl, (blk_cell BK367.out 2).trans rfl, (blk_cell BK347.out 0).trans rfl, (blk_cell BK347.out 1).trans rfl, (blk_cell BK347.out 2).trans rfl⟩ (fun hHeld => ?_)
      clear hK K
      refine Z.nm ?_
      refine pure_ (i := 4) (N := some 49) (v := ?_) (a' := ?_) #[true, true, true, true, true] rfl rfl (by kernel_rfl) (fun _ _ _ h => h) (Or.inl ⟨by rfl, ?_⟩) ?_ ?_
      rotate_left
      ·intro w'
       go_simp
       with_reducible rfl
      rotate_left
      ·simp only [Act.put, List.setIfInBounds_toArray, List.set_cons_zero, List.set_cons_succ, i64_w, i32_w]
       rfl
      refine done_ (by kernel_rfl) ?_
      try go_wp2_with (first | ((with_reducible refine gate_callee (f := 45) rfl ?_); refine goesL_ (some 52) rfl rfl Try.func45 (by kernel_rfl) rfl #[.slice A1 l1.length c1] rfl Z.ar ?_; (with_reducible refine (laws_toIntS.calls k _ _ l1 t380 _ ?side1 ?side2 A44.out).mono ?_); (case side1 => exact Z.cb (Kd.C_below HR1.out HB.out)); (case side2 => exact HC1.out); rintro e w73 ⟨v381, rfl, ho0, hb⟩; refine ⟨_, rfl, ?_⟩; have n0_ := Aside0.mk (Kd.R_elder' (by (with_reducible skip); exact HO352.out) (Kd.R_base ho0) hb); have n1_ := Aside0.mk (Kd.R_below (by (with_reducible skip); exact HO355.out) hb); have n2_ := Aside0.mk (Kd.R_elder' (by (with_reducible skip); exact HO358.out) (Kd.R_base ho0) hb); have n3_ := Aside0.mk (Kd.R_elder' (by (with_reducible skip); exact HO363.out) (Kd.R_base ho0) hb); have n4_ := Aside0.mk (Kd.R_below (by (with_reducible skip); exact HO366.out) hb); have n5_ := Aside0.mk (Kd.R_elder' (by (with_reducible skip); exact HO370.out) (Kd.R_base ho0) hb); have n6_ := Aside0.mk (Kd.R_elder' (by (with_reducible skip); exact HO375.out) (Kd.R_base ho0) hb); have n7_ := Aside0.mk (Kd.R_below (by (with_reducible skip); exact HO378.out) hb); have n8_ := Aside0.mk (Kd.R_lower (Kd.R_new' (Kd.R_new' (Kd.R_new' (Kd.R_new' (Kd.R_new' ho0 (Kd.R_lt (by (with_reducible skip); exact HO352.out))) (Kd.R_lt (by (with_reducible skip); exact HO358.out))) (Kd.R_lt (by (with_reducible skip); exact HO363.out))) (Kd.R_lt (by (with_reducible skip); exact HO370.out))) (Kd.R_lt (by (with_reducible skip); exact HO375.out))) (below_size (by repeat ((with_reducible exact HB.out))))); have n9_ := Aside0.mk (blk_below (g := gb347) (o := .cells #[.int .i64 a0_0, .slice A0_1 l0_1.length c0_1, .slice A0_2 l0_2.length c0_2] 62 (0, 0)) (Z.bk BK347.out) hb); have n10_ := Aside0.mk (blk_below (g := gb367) (o := .cells #[.int .i64 t360, .slice Ao62 t361.length co62, .slice Ao63 t364.length co63] 67 (0, 0)) (Z.bk BK367.out) hb); have n11_ := Aside0.mk (below_step (by repeat ((with_reducible exact HB.out))) hb); clear HO352; clear HO355; clear HO358; clear HO363; clear HO366; clear HO370; clear HO375; clear HO378; clear BK347; clear BK367; clear HB; have HO352 := n0_; have HO355 := n1_; have HO358 := n2_; have HO363 := n3_; have HO366 := n4_; have HO370 := n5_; have HO375 := n6_; have HO378 := n7_; have HO382 := n8_; have BK347 := n9_; have BK367 := n10_; have HB := n11_; clear n0_ n1_ n2_ n3_ n4_ n5_ n6_ n7_ n8_ n9_ n10_ n11_; (try clear hb); (try clear ho0); obtain ⟨Ao74, co74, eo74⟩ := Kd.R_slice HO382.out; subst eo74) | ((with_reducible refine gate_callee (f := 48) rfl ?_); refine goesL_ (some 53) rfl rfl Try.func48 (by kernel_rfl) rfl #[.slice Ao66 t368.length co66, .slice Ao74 t380.length co74] rfl Z.ar ?_; (with_reducible refine (laws_eqIntS.calls k _ _ t368 _ _ t380 true _ ?side1 ?side2 ?side3 ?side4 A45.out).mono ?_); (case side1 => repeat (exact (Kd.R_reads' HO370.out).2.2)); (case side2 => exact (Kd.R_reads' HO370.out).2.1); (case side3 => repeat (exact (Kd.R_reads' HO382.out).2.2)); (case side4 => exact (Kd.R_reads' HO382.out).2.1); rintro e w' ⟨rfl, ⟨nd, rfl⟩⟩; refine ⟨_, rfl, ?_⟩))
      go_ret
      exact ⟨by rfl, by repeat ((with_reducible first | exact HB.out | apply pw_below_drewN))⟩
     ·replace c46 := Bool.eq_false_iff.mpr c46
      subst c46
      have H1 : (some false) = some r := by rw [if_neg (show ¬ (false = true) by decide)] at H; exact H
      clear H
      have H := H1
      clear H1
      obtain rfl := Option.some.inj H
      go_enter Try.func9, Try.ntmps9
      try go_wp2_with (first | ((with_reducible refine gate_dst (N := 5) rfl ?_); refine box_event ?hg (N := 5) ?hd (cs := #[.int .i64 a0_0, .slice A0_1 l0_1.length c0_1, .slice A0_2 l0_2.length c0_2]) (t := 62) ?hr ?_; (case hd => rfl); (case hg => rfl); (case hr => (go_simp; done)); intro gb347 hg w75 hbox hb; have n0_ := Aside0.mk (below_step (Z.bl HB.out) hb); have n1_ := Aside0.mk (hbox); have n2_ := Aside0.mk ((by rw [hg]; exact (below_size (Z.bl HB.out)) : w.heap.size ≤ gb347)); have n3_ := Aside0.mk ((by rw [hg]; exact (below_size (Z.bl HB.out)) : w.heap.size ≤ gb347)); clear HB; have HB := n0_; have BK347 := n1_; have GW347 := n2_; have GE347 := n3_; clear n0_ n1_ n2_ n3_; clear hb hbox hg; have hcz76_0 : w75.cell? ⟨gb347, 0, none⟩ = some (.int .i64 a0_0) := (blk_cell BK347.out 0).trans rfl; have hcz76_1 : w75.cell? ⟨gb347, 1, none⟩ = some (.slice A0_1 l0_1.length c0_1) := (blk_cell BK347.out 1).trans rfl; have hcz76_2 : w75.cell? ⟨gb347, 2, none⟩ = some (.slice A0_2 l0_2.length c0_2) := (blk_cell BK347.out 2).trans rfl; have hfz76_0 := blk_frozen BK347.out 0; have hfz76_1 := blk_frozen BK347.out 1; have hfz76_2 := blk_frozen BK347.out 2) | ((with_reducible refine gate_callee (f := 42) rfl ?_); refine goesL_ (some 21) rfl rfl Try.func42 (by kernel_rfl) rfl #[.agg #[.int .i64 a0_0, .slice A0_1 l0_1.length c0_1, .slice A0_2 l0_2.length c0_2], .int .i64 1048576] rfl Z.ar ?_; (with_reducible refine (laws_szCharter.calls k a0_0 _ _ l0_1 _ _ l0_2 1048576 t348 _ ?side1 ?side2 ?side3 ?side4 A8.out).mono ?_); (case side1 => exact Z.cb (Kd.C_below HR0_1.out HB.out)); (case side2 => exact HC0_1.out); (case side3 => exact Z.cb (Kd.C_below HR0_2.out HB.out)); (case side4 => exact HC0_2.out); rintro e w77 ⟨rfl, hb⟩; refine ⟨_, rfl, ?_⟩; have n0_ := Aside0.mk (blk_below (g := gb347) (o := .cells #[.int .i64 a0_0, .slice A0_1 l0_1.length c0_1, .slice A0_2 l0_2.length c0_2] 62 (0, 0)) (Z.bk BK347.out) hb); have n1_ := Aside0.mk (below_step (Z.bs HB.out GE347.out) hb); clear BK347; clear HB; have BK347 := n0_; have HB := n1_; clear n0_ n1_; (try clear hb); have hcz78_0 : w77.cell? ⟨gb347, 0, none⟩ = some (.int .i64 a0_0) := (blk_cell BK347.out 0).trans rfl; have hcz78_1 : w77.cell? ⟨gb347, 1, none⟩ = some (.slice A0_1 l0_1.length c0_1) := (blk_cell BK347.out 1).trans rfl; have hcz78_2 : w77.cell? ⟨gb347, 2, none⟩ = some (.slice A0_2 l0_2.length c0_2) := (blk_cell BK347.out 2).trans rfl; have hfz78_0 := blk_frozen BK347.out 0; have hfz78_1 := blk_frozen BK347.out 1; have hfz78_2 := blk_frozen BK347.out 2) | ((with_reducible refine gate_callee (f := 44) rfl ?_); refine goesL_ (some 25) rfl rfl Try.func44 (by kernel_rfl) rfl #[.agg #[.int .i64 a0_0, .slice A0_1 l0_1.length c0_1, .slice A0_2 l0_2.length c0_2]] rfl Z.ar ?_; (with_reducible refine (laws_toCharter.calls k a0_0 _ _ l0_1 _ _ l0_2 t349 t350 t353 _ ?side1 ?side2 ?side3 ?side4 A13.out).mono ?_); (case side1 => exact Z.cb (Kd.C_below HR0_1.out HB.out)); (case side2 => exact HC0_1.out); (case side3 => exact Z.cb (Kd.C_below HR0_2.out HB.out)); (case side4 => exact HC0_2.out); rintro e w79 ⟨v351, v354, rfl, ho0, ho1, hb⟩; refine ⟨_, rfl, ?_⟩; have n0_ := Aside0.mk (Kd.R_lower ho0 (below_size (Z.bs HB.out GE347.out))); have n1_ := Aside0.mk (Kd.R_lower ho1 (below_size (Z.bs HB.out GE347.out))); have n2_ := Aside0.mk (blk_below (g := gb347) (o := .cells #[.int .i64 a0_0, .slice A0_1 l0_1.length c0_1, .slice A0_2 l0_2.length c0_2] 62 (0, 0)) (Z.bk BK347.out) hb); have n3_ := Aside0.mk (below_step (Z.bs HB.out GE347.out) hb); clear BK347; clear HB; have HO352 := n0_; have HO355 := n1_; have BK347 := n2_; have HB := n3_; clear n0_ n1_ n2_ n3_; (try clear hb); (try clear ho0); (try clear ho1)) | ((with_reducible refine gate_callee (f := 45) rfl ?_); refine goesL_ (some 27) rfl rfl Try.func45 (by kernel_rfl) rfl #[.slice A1 l1.length c1] rfl Z.ar ?_; (with_reducible refine (laws_toIntS.calls k _ _ l1 t356 _ ?side1 ?side2 A14.out).mono ?_); (case side1 => exact Z.cb (Kd.C_below HR1.out HB.out)); (case side2 => exact HC1.out); rintro e w80 ⟨v357, rfl, ho0, hb⟩; refine ⟨_, rfl, ?_⟩; have n0_ := Aside0.mk (Kd.R_elder' (by (with_reducible skip); exact HO352.out) (Kd.R_base ho0) hb); have n1_ := Aside0.mk (Kd.R_below (by (with_reducible skip); exact HO355.out) hb); have n2_ := Aside0.mk (Kd.R_lower (Kd.R_new' ho0 (Kd.R_lt (by (with_reducible skip); exact HO352.out))) (below_size (Z.bs HB.out GE347.out))); have n3_ := Aside0.mk (blk_below (g := gb347) (o := .cells #[.int .i64 a0_0, .slice A0_1 l0_1.length c0_1, .slice A0_2 l0_2.length c0_2] 62 (0, 0)) (Z.bk BK347.out) hb); have n4_ := Aside0.mk (below_step (Z.bs HB.out GE347.out) hb); clear HO352; clear HO355; clear BK347; clear HB; have HO352 := n0_; have HO355 := n1_; have HO358 := n2_; have BK347 := n3_; have HB := n4_; clear n0_ n1_ n2_ n3_ n4_; (try clear hb); (try clear ho0); obtain ⟨Ao81, co81, eo81⟩ := Kd.R_slice HO352.out; subst eo81; obtain ⟨Ao82, co82, eo82⟩ := Kd.R_slice HO355.out; subst eo82; obtain ⟨Ao83, co83, eo83⟩ := Kd.R_slice HO358.out; subst eo83) | ((with_reducible refine gate_callee (f := 43) rfl ?_); refine goesL_ (some 31) rfl rfl Try.func43 (by kernel_rfl) rfl #[.agg #[.int .i64 t349, .slice Ao81 t350.length co81, .slice Ao82 t353.length co82], .slice Ao83 t356.length co83, .int .i64 a2, .int .i64 a3, .int .i64 a4] rfl Z.ar ?_; (with_reducible refine (spec_MayChange.calls k t349 _ _ t350 _ _ t353 _ _ t356 a2 a3 a4 t359 _ ?side1 ?side2 ?side3 ?side4 ?side5 ?side6 A15.out).mono ?_); (case side1 => repeat (exact (Kd.R_reads' HO352.out).2.2)); (case side2 => exact (Kd.R_reads' HO352.out).2.1); (case side3 => repeat (exact (Kd.R_reads' HO355.out).2.2)); (case side4 => exact (Kd.R_reads' HO355.out).2.1); (case side5 => repeat (exact (Kd.R_reads' HO358.out).2.2)); (case side6 => exact (Kd.R_reads' HO358.out).2.1); rintro e w84 ⟨rfl, hb⟩; refine ⟨_, rfl, ?_⟩; have n0_ := Aside0.mk (Kd.R_below (by (with_reducible skip); exact HO352.out) hb); have n1_ := Aside0.mk (Kd.R_below (by (with_reducible skip); exact HO355.out) hb); have n2_ := Aside0.mk (Kd.R_below (by (with_reducible skip); exact HO358.out) hb); have n3_ := Aside0.mk (blk_below (g := gb347) (o := .cells #[.int .i64 a0_0, .slice A0_1 l0_1.length c0_1, .slice A0_2 l0_2.length c0_2] 62 (0, 0)) (Z.bk BK347.out) hb); have n4_ := Aside0.mk (below_step (Z.bs HB.out GE347.out) hb); clear HO352; clear HO355; clear HO358; clear BK347; clear HB; have HO352 := n0_; have HO355 := n1_; have HO358 := n2_; have BK347 := n3_; have HB := n4_; clear n0_ n1_ n2_ n3_ n4_; (try clear hb); have hcz85_0 : w84.cell? ⟨gb347, 0, none⟩ = some (.int .i64 a0_0) := (blk_cell BK347.out 0).trans rfl; have hcz85_1 : w84.cell? ⟨gb347, 1, none⟩ = some (.slice A0_1 l0_1.length c0_1) := (blk_cell BK347.out 1).trans rfl; have hcz85_2 : w84.cell? ⟨gb347, 2, none⟩ = some (.slice A0_2 l0_2.length c0_2) := (blk_cell BK347.out 2).trans rfl; have hfz85_0 := blk_frozen BK347.out 0; have hfz85_1 := blk_frozen BK347.out 1; have hfz85_2 := blk_frozen BK347.out 2) | ((with_reducible refine gate_callee (f := 44) rfl ?_); refine goesL_ (some 33) rfl rfl Try.func44 (by kernel_rfl) rfl #[.agg #[.int .i64 a0_0, .slice A0_1 l0_1.length c0_1, .slice A0_2 l0_2.length c0_2]] rfl Z.ar ?_; (with_reducible refine (laws_toCharter.calls k a0_0 _ _ l0_1 _ _ l0_2 t360 t361 t364 _ ?side1 ?side2 ?side3 ?side4 A16.out).mono ?_); (case side1 => exact Z.cb (Kd.C_below HR0_1.out HB.out)); (case side2 => exact HC0_1.out); (case side3 => exact Z.cb (Kd.C_below HR0_2.out HB.out)); (case side4 => exact HC0_2.out); rintro e w86 ⟨v362, v365, rfl, ho0, ho1, hb⟩; refine ⟨_, rfl, ?_⟩; have n0_ := Aside0.mk (Kd.R_elder' (by (with_reducible skip); exact HO352.out) (Kd.R_base ho0) hb); have n1_ := Aside0.mk (Kd.R_elder' (by (with_reducible skip); exact HO355.out) (Kd.R_base ho1) hb); have n2_ := Aside0.mk (Kd.R_elder' (by (with_reducible skip); exact HO358.out) (Kd.R_base ho0) hb); have n3_ := Aside0.mk (Kd.R_lower (Kd.R_new' (Kd.R_new' ho0 (Kd.R_lt (by (with_reducible skip); exact HO352.out))) (Kd.R_lt (by (with_reducible skip); exact HO358.out))) (below_size (Z.bs HB.out GE347.out))); have n4_ := Aside0.mk (Kd.R_lower (Kd.R_new' ho1 (Kd.R_lt (by (with_reducible skip); exact HO355.out))) (below_size (Z.bs HB.out GE347.out))); have n5_ := Aside0.mk (blk_below (g := gb347) (o := .cells #[.int .i64 a0_0, .slice A0_1 l0_1.length c0_1, .slice A0_2 l0_2.length c0_2] 62 (0, 0)) (Z.bk BK347.out) hb); have n6_ := Aside0.mk (below_step (Z.bs HB.out GE347.out) hb); clear HO352; clear HO355; clear HO358; clear BK347; clear HB; have HO352 := n0_; have HO355 := n1_; have HO358 := n2_; have HO363 := n3_; have HO366 := n4_; have BK347 := n5_; have HB := n6_; clear n0_ n1_ n2_ n3_ n4_ n5_ n6_; (try clear hb); (try clear ho0); (try clear ho1)) | ((with_reducible refine gate_dst (N := 13) rfl ?_); refine box_event ?hg (N := 13) ?hd (cs := #[.int .i64 0, .slice none 0 0, .slice none 0 0]) (t := 67) ?hr ?_; (case hd => rfl); (case hg => rfl); (case hr => (go_simp; done)); intro gb367 hg w87 hbox hb; have n0_ := Aside0.mk (Kd.R_below (by (with_reducible skip); exact HO352.out) hb); have n1_ := Aside0.mk (Kd.R_below (by (with_reducible skip); exact HO355.out) hb); have n2_ := Aside0.mk (Kd.R_below (by (with_reducible skip); exact HO358.out) hb); have n3_ := Aside0.mk (Kd.R_below (by (with_reducible skip); exact HO363.out) hb); have n4_ := Aside0.mk (Kd.R_below (by (with_reducible skip); exact HO366.out) hb); have n5_ := Aside0.mk (blk_below (g := gb347) (o := .cells #[.int .i64 a0_0, .slice A0_1 l0_1.length c0_1, .slice A0_2 l0_2.length c0_2] 62 (0, 0)) (Z.bk BK347.out) hb); have n6_ := Aside0.mk (below_step (Z.bs HB.out GE347.out) hb); have n7_ := Aside0.mk (hbox); have n8_ := Aside0.mk ((by rw [hg]; exact (below_size (Z.bs HB.out GE347.out)) : w.heap.size ≤ gb367)); have n9_ := Aside0.mk ((by rw [hg]; exact (below_size (Z.bs HB.out GE347.out)) : w.heap.size ≤ gb367)); have n10_ := Aside0.mk ((by rw [hg]; exact Nat.ne_of_lt (blk_lt (g := gb347) (o := .cells #[.int .i64 a0_0, .slice A0_1 l0_1.length c0_1, .slice A0_2 l0_2.length c0_2] 62 (0, 0)) (Z.bk BK347.out)) : gb347 ≠ gb367)); have n11_ := Aside0.mk ((by rw [hg]; exact Nat.ne_of_gt (blk_lt (g := gb347) (o := .cells #[.int .i64 a0_0, .slice A0_1 l0_1.length c0_1, .slice A0_2 l0_2.length c0_2] 62 (0, 0)) (Z.bk BK347.out)) : gb367 ≠ gb347)); clear HO352; clear HO355; clear HO358; clear HO363; clear HO366; clear BK347; clear HB; have HO352 := n0_; have HO355 := n1_; have HO358 := n2_; have HO363 := n3_; have HO366 := n4_; have BK347 := n5_; have HB := n6_; have BK367 := n7_; have GW367 := n8_; have GE367 := n9_; have NB347_367 := n10_; have NB367_347 := n11_; clear n0_ n1_ n2_ n3_ n4_ n5_ n6_ n7_ n8_ n9_ n10_ n11_; clear hb hbox hg; have hnb88 := NB367_347.out; have hnc88 := NB347_367.out; have hcz89_0 : w87.cell? ⟨gb367, 0, none⟩ = some (.int .i64 0) := (blk_cell BK367.out 0).trans rfl; have hcz89_1 : w87.cell? ⟨gb367, 1, none⟩ = some (.slice none 0 0) := (blk_cell BK367.out 1).trans rfl; have hcz89_2 : w87.cell? ⟨gb367, 2, none⟩ = some (.slice none 0 0) := (blk_cell BK367.out 2).trans rfl; have hfz89_0 := blk_frozen BK367.out 0; have hfz89_1 := blk_frozen BK367.out 1; have hfz89_2 := blk_frozen BK367.out 2; obtain ⟨Ao90, co90, eo90⟩ := Kd.R_slice HO363.out; subst eo90; obtain ⟨Ao91, co91, eo91⟩ := Kd.R_slice HO366.out; subst eo91) | ((with_reducible refine gate_callee (f := 45) rfl ?_); refine goesL_ (some 35) rfl rfl Try.func45 (by kernel_rfl) rfl #[.slice A1 l1.length c1] rfl Z.ar ?_; (with_reducible refine (laws_toIntS.calls k _ _ l1 t368 _ ?side1 ?side2 A17.out).mono ?_); (case side1 => exact Kd.C_below HR1.out (by repeat ((with_reducible first | exact HB.out | refine below_set ?_ GE367.out)))); (case side2 => exact HC1.out); rintro e w92 ⟨v369, rfl, ho0, hb⟩; refine ⟨_, rfl, ?_⟩; have n0_ := Aside0.mk (Kd.R_elder' (by (with_reducible skip); exact (Kd.R_mono (Kd.R_far (p := ⟨gb367, 2, none⟩) (Kd.R_far (p := ⟨gb367, 1, none⟩) (Kd.R_far (p := ⟨gb367, 0, none⟩) (Kd.R_types HO352.out BK367.out (by decide)) (fun _ hk => hk.2) (.int .i64 t360)) (fun _ hk => hk.2) (.slice Ao90 t361.length co90)) (fun _ hk => hk.2) (.slice Ao91 t364.length co91)) (fun _ h_ => h_.1))) (Kd.R_base ho0) hb); have n1_ := Aside0.mk (Kd.R_below (by (with_reducible skip); exact (Kd.R_mono (Kd.R_far (p := ⟨gb367, 2, none⟩) (Kd.R_far (p := ⟨gb367, 1, none⟩) (Kd.R_far (p := ⟨gb367, 0, none⟩) (Kd.R_types HO355.out BK367.out (by decide)) (fun _ hk => hk.2) (.int .i64 t360)) (fun _ hk => hk.2) (.slice Ao90 t361.length co90)) (fun _ hk => hk.2) (.slice Ao91 t364.length co91)) (fun _ h_ => h_.1))) hb); have n2_ := Aside0.mk (Kd.R_elder' (by (with_reducible skip); exact (Kd.R_mono (Kd.R_far (p := ⟨gb367, 2, none⟩) (Kd.R_far (p := ⟨gb367, 1, none⟩) (Kd.R_far (p := ⟨gb367, 0, none⟩) (Kd.R_types HO358.out BK367.out (by decide)) (fun _ hk => hk.2) (.int .i64 t360)) (fun _ hk => hk.2) (.slice Ao90 t361.length co90)) (fun _ hk => hk.2) (.slice Ao91 t364.length co91)) (fun _ h_ => h_.1))) (Kd.R_base ho0) hb); have n3_ := Aside0.mk (Kd.R_elder' (by (with_reducible skip); exact (Kd.R_mono (Kd.R_far (p := ⟨gb367, 2, none⟩) (Kd.R_far (p := ⟨gb367, 1, none⟩) (Kd.R_far (p := ⟨gb367, 0, none⟩) (Kd.R_types HO363.out BK367.out (by decide)) (fun _ hk => hk.2) (.int .i64 t360)) (fun _ hk => hk.2) (.slice Ao90 t361.length co90)) (fun _ hk => hk.2) (.slice Ao91 t364.length co91)) (fun _ h_ => h_.1))) (Kd.R_base ho0) hb); have n4_ := Aside0.mk (Kd.R_below (by (with_reducible skip); exact (Kd.R_mono (Kd.R_far (p := ⟨gb367, 2, none⟩) (Kd.R_far (p := ⟨gb367, 1, none⟩) (Kd.R_far (p := ⟨gb367, 0, none⟩) (Kd.R_types HO366.out BK367.out (by decide)) (fun _ hk => hk.2) (.int .i64 t360)) (fun _ hk => hk.2) (.slice Ao90 t361.length co90)) (fun _ hk => hk.2) (.slice Ao91 t364.length co91)) (fun _ h_ => h_.1))) hb); have n5_ := Aside0.mk (Kd.R_lower (Kd.R_new' (Kd.R_new' (Kd.R_new' ho0 (Kd.R_lt (by (with_reducible skip); exact (Kd.R_mono (Kd.R_far (p := ⟨gb367, 2, none⟩) (Kd.R_far (p := ⟨gb367, 1, none⟩) (Kd.R_far (p := ⟨gb367, 0, none⟩) (Kd.R_types HO352.out BK367.out (by decide)) (fun _ hk => hk.2) (.int .i64 t360)) (fun _ hk => hk.2) (.slice Ao90 t361.length co90)) (fun _ hk => hk.2) (.slice Ao91 t364.length co91)) (fun _ h_ => h_.1))))) (Kd.R_lt (by (with_reducible skip); exact (Kd.R_mono (Kd.R_far (p := ⟨gb367, 2, none⟩) (Kd.R_far (p := ⟨gb367, 1, none⟩) (Kd.R_far (p := ⟨gb367, 0, none⟩) (Kd.R_types HO358.out BK367.out (by decide)) (fun _ hk => hk.2) (.int .i64 t360)) (fun _ hk => hk.2) (.slice Ao90 t361.length co90)) (fun _ hk => hk.2) (.slice Ao91 t364.length co91)) (fun _ h_ => h_.1))))) (Kd.R_lt (by (with_reducible skip); exact (Kd.R_mono (Kd.R_far (p := ⟨gb367, 2, none⟩) (Kd.R_far (p := ⟨gb367, 1, none⟩) (Kd.R_far (p := ⟨gb367, 0, none⟩) (Kd.R_types HO363.out BK367.out (by decide)) (fun _ hk => hk.2) (.int .i64 t360)) (fun _ hk => hk.2) (.slice Ao90 t361.length co90)) (fun _ hk => hk.2) (.slice Ao91 t364.length co91)) (fun _ h_ => h_.1))))) (below_size (by repeat ((with_reducible first | exact HB.out | refine below_set ?_ GE367.out))))); have n6_ := Aside0.mk (blk_below (g := gb347) (o := .cells #[.int .i64 a0_0, .slice A0_1 l0_1.length c0_1, .slice A0_2 l0_2.length c0_2] 62 (0, 0)) (by (with_reducible skip); refine blk_far ?_ NB347_367.out _; (with_reducible skip); refine blk_far ?_ NB347_367.out _; (with_reducible skip); refine blk_far ?_ NB347_367.out _; (with_reducible skip); exact BK347.out) hb); have n7_ := Aside0.mk (blk_below (g := gb367) (o := .cells #[.int .i64 t360, .slice Ao90 t361.length co90, .slice Ao91 t364.length co91] 67 (0, 0)) (by (with_reducible skip); refine blk_put (cs := #[.int .i64 t360, .slice Ao90 t361.length co90, .slice none 0 0]) ?_ 2 _ rfl; (with_reducible skip); refine blk_put (cs := #[.int .i64 t360, .slice none 0 0, .slice none 0 0]) ?_ 1 _ rfl; (with_reducible skip); refine blk_put (cs := #[.int .i64 0, .slice none 0 0, .slice none 0 0]) ?_ 0 _ rfl; (with_reducible skip); exact BK367.out) hb); have n8_ := Aside0.mk (below_step (by repeat ((with_reducible first | exact HB.out | refine below_set ?_ GE367.out))) hb); clear HO352; clear HO355; clear HO358; clear HO363; clear HO366; clear BK347; clear BK367; clear HB; have HO352 := n0_; have HO355 := n1_; have HO358 := n2_; have HO363 := n3_; have HO366 := n4_; have HO370 := n5_; have BK347 := n6_; have BK367 := n7_; have HB := n8_; clear n0_ n1_ n2_ n3_ n4_ n5_ n6_ n7_ n8_; (try clear hb); (try clear ho0); have hcz93_0 : w92.cell? ⟨gb367, 0, none⟩ = some (.int .i64 t360) := (blk_cell BK367.out 0).trans rfl; have hcz93_1 : w92.cell? ⟨gb367, 1, none⟩ = some (.slice Ao90 t361.length co90) := (blk_cell BK367.out 1).trans rfl; have hcz93_2 : w92.cell? ⟨gb367, 2, none⟩ = some (.slice Ao91 t364.length co91) := (blk_cell BK367.out 2).trans rfl; have hfz93_0 := blk_frozen BK367.out 0; have hfz93_1 := blk_frozen BK367.out 1; have hfz93_2 := blk_frozen BK367.out 2; obtain ⟨Ao94, co94, eo94⟩ := Kd.R_slice HO370.out; subst eo94) | ((with_reducible refine gate_callee (f := 46) rfl ?_); refine goesL_ (some 41) rfl rfl Try.func46 (by kernel_rfl) rfl #[.agg #[.int .i64 t360, .slice Ao90 t361.length co90, .slice Ao91 t364.length co91], .slice Ao94 t368.length co94, .int .i64 a2, .int .i64 a3, .int .i64 a4] rfl Z.ar ?_; (with_reducible refine (impl_MayChange.calls k t360 _ _ t361 _ _ t364 _ _ t368 a2 a3 a4 t371 _ ?side1 ?side2 ?side3 ?side4 ?side5 ?side6 A18.out).mono ?_); (case side1 => repeat (exact (Kd.R_reads' HO363.out).2.2)); (case side2 => exact (Kd.R_reads' HO363.out).2.1); (case side3 => repeat (exact (Kd.R_reads' HO366.out).2.2)); (case side4 => exact (Kd.R_reads' HO366.out).2.1); (case side5 => repeat (exact (Kd.R_reads' HO370.out).2.2)); (case side6 => exact (Kd.R_reads' HO370.out).2.1); rintro e w95 ⟨rfl, hb⟩; refine ⟨_, rfl, ?_⟩; have n0_ := Aside0.mk (Kd.R_below (by (with_reducible skip); exact HO352.out) hb); have n1_ := Aside0.mk (Kd.R_below (by (with_reducible skip); exact HO355.out) hb); have n2_ := Aside0.mk (Kd.R_below (by (with_reducible skip); exact HO358.out) hb); have n3_ := Aside0.mk (Kd.R_below (by (with_reducible skip); exact HO363.out) hb); have n4_ := Aside0.mk (Kd.R_below (by (with_reducible skip); exact HO366.out) hb); have n5_ := Aside0.mk (Kd.R_below (by (with_reducible skip); exact HO370.out) hb); have n6_ := Aside0.mk (blk_below (g := gb347) (o := .cells #[.int .i64 a0_0, .slice A0_1 l0_1.length c0_1, .slice A0_2 l0_2.length c0_2] 62 (0, 0)) (Z.bk BK347.out) hb); have n7_ := Aside0.mk (blk_below (g := gb367) (o := .cells #[.int .i64 t360, .slice Ao90 t361.length co90, .slice Ao91 t364.length co91] 67 (0, 0)) (Z.bk BK367.out) hb); have n8_ := Aside0.mk (below_step (by repeat ((with_reducible exact HB.out))) hb); clear HO352; clear HO355; clear HO358; clear HO363; clear HO366; clear HO370; clear BK347; clear BK367; clear HB; have HO352 := n0_; have HO355 := n1_; have HO358 := n2_; have HO363 := n3_; have HO366 := n4_; have HO370 := n5_; have BK347 := n6_; have BK367 := n7_; have HB := n8_; clear n0_ n1_ n2_ n3_ n4_ n5_ n6_ n7_ n8_; (try clear hb)))
      have n0_ := Aside0.mk (Kd.R_drew HO352.out)
      have n1_ := Aside0.mk (Kd.R_drew HO355.out)
      have n2_ := Aside0.mk (Kd.R_drew HO358.out)
      have n3_ := Aside0.mk (Kd.R_drew HO363.out)
      have n4_ := Aside0.mk (Kd.R_drew HO366.out)
      have n5_ := Aside0.mk (Kd.R_drew HO370.out)
      have n6_ := Aside0.mk (blk_drew BK347.out)
      have n7_ := Aside0.mk (blk_drew BK367.out)
      have n8_ := Aside0.mk (below_drew1 HB.out)
      clear HO352
      clear HO355
      clear HO358
      clear HO363
      clear HO366
      clear HO370
      clear BK347
      clear BK367
      clear HB
      have HO352 := n0_
      have HO355 := n1_
      have HO358 := n2_
      have HO363 := n3_
      have HO366 := n4_
      have HO370 := n5_
      have BK347 := n6_
      have BK367 := n7_
      have HB := n8_
      clear n0_ n1_ n2_ n3_ n4_ n5_ n6_ n7_ n8_
      refine start_ (n := 5) (S := fun w' => w'.cell? ⟨gb367, 0, none⟩ = some (.int .i64 t360) ∧ w'.cell? ⟨gb367, 1, none⟩ = some (.slice Ao90 t361.length co90) ∧ w'.cell? ⟨gb367, 2, none⟩ = some (.slice Ao91 t364.length co91) ∧ w'.cell? ⟨gb347, 0, none⟩ = some (.int .i64 a0_0) ∧ w'.cell? ⟨gb347, 1, none⟩ = some (.slice A0_1 l0_1.length c0_1) ∧ w'.cell? ⟨gb347, 2, none⟩ = some (.slice A0_2 l0_2.length c0_2)) (ds := []) #[false, false, false, false, false] (by kernel_rfl) rfl rfl ⟨(blk_cell BK367.out 0).trans rfl, (blk_cell BK367.out 1).trans rfl, (blk_cell BK367.out 2).trans rfl, (blk_cell BK347.out 0).trans rfl, (blk_cell BK347.out 1).trans rfl, (blk_cell BK347.out 2).trans rfl⟩ (fun hHeld => ?_)
      generalize w95.drew = w96 at HO352 HO355 HO358 HO363 HO366 HO370 BK347 BK367 HB hHeld ⊢
      refine take_ (i := 0) (N := some 45) (v := ?_) (a' := ?_) #[true, false, false, false, false] rfl rfl (by kernel_rfl) (fun _ _ _ h => h) (Or.inl ⟨by rfl, ?_⟩) hHeld ?_ ?_
      rotate_left
      ·rintro w' ⟨s0, s1, s2, s3, s4, s5⟩
       go_simp
       with_reducible rfl
      rotate_left
      ·simp only [Act.put, List.setIfInBounds_toArray, List.set_cons_zero, List.set_cons_succ, i64_w, i32_w]
       rfl
      refine take_ (i := 1) (N := some 46) (v := ?_) (a' := ?_) #[true, true, false, false, false] rfl rfl (by kernel_rfl) (fun _ _ _ h => h) (Or.inl ⟨by rfl, ?_⟩) hHeld ?_ ?_
      rotate_left
      ·rintro w' ⟨s0, s1, s2, s3, s4, s5⟩
       go_simp
       with_reducible rfl
      rotate_left
      ·simp only [Act.put, List.setIfInBounds_toArray, List.set_cons_zero, List.set_cons_succ, i64_w, i32_w]
       rfl
      refine one_ (i := 2) (N := some 47) (Z.mb 5 7) rfl rfl (by kernel_rfl) (by decide) (fun K hK => ?_)
      refine goes_ Try.func44 (by kernel_rfl) rfl #[.agg #[.int .i64 a0_0, .slice A0_1 l0_1.length c0_1, .slice A0_2 l0_2.length c0_2]] (by rfl) rfl rfl Z.ar ?_
      with_reducible refine (laws_toCharter.calls k a0_0 _ _ l0_1 _ _ l0_2 t372 t373 t376 _ ?side1 ?side2 ?side3 ?side4 A41.out).mono ?_
      (case side1 => exact Z.cb (Kd.C_below HR0_1.out HB.out))
      (case side2 => exact HC0_1.out)
      (case side3 => exact Z.cb (Kd.C_below HR0_2.out HB.out))
      (case side4 => exact HC0_2.out)
      rintro e w97 ⟨v374, v377, rfl, ho0, ho1, hb⟩
      refine ⟨_, rfl, ?_⟩
      have n0_ := Aside0.mk (Kd.R_elder' (by (with_reducible skip); exact HO352.out) (Kd.R_base ho0) hb)
      have n1_ := Aside0.mk (Kd.R_elder' (by (with_reducible skip); exact HO355.out) (Kd.R_base ho1) hb)
      have n2_ := Aside0.mk (Kd.R_elder' (by (with_reducible skip); exact HO358.out) (Kd.R_base ho0) hb)
      have n3_ := Aside0.mk (Kd.R_elder' (by (with_reducible skip); exact HO363.out) (Kd.R_base ho0) hb)
      have n4_ := Aside0.mk (Kd.R_elder' (by (with_reducible skip); exact HO366.out) (Kd.R_base ho1) hb)
      have n5_ := Aside0.mk (Kd.R_elder' (by (with_reducible skip); exact HO370.out) (Kd.R_base ho0) hb)
      have n6_ := Aside0.mk (Kd.R_lower (Kd.R_new' (Kd.R_new' (Kd.R_new' (Kd.R_new' ho0 (Kd.R_lt (by (with_reducible skip); exact HO352.out))) (Kd.R_lt (by (with_reducible skip); exact HO358.out))) (Kd.R_lt (by (with_reducible skip); exact HO363.out))) (Kd.R_lt (by (with_reducible skip); exact HO370.out))) (below_size (by repeat ((with_reducible exact HB.out)))))
      have n7_ := Aside0.mk (Kd.R_lower (Kd.R_new' (Kd.R_new' ho1 (Kd.R_lt (by (with_reducible skip); exact HO355.out))) (Kd.R_lt (by (with_reducible skip); exact HO366.out))) (below_size (by repeat ((with_reducible exact HB.out)))))
      have n8_ := Aside0.mk (blk_below (g := gb347) (o := .cells #[.int .i64 a0_0, .slice A0_1 l0_1.length c0_1, .slice A0_2 l0_2.length c0_2] 62 (0, 0)) (Z.bk BK347.out) hb)
      have n9_ := Aside0.mk (blk_below (g := gb367) (o := .cells #[.int .i64 t360, .slice Ao90 t361.length co90, .slice Ao91 t364.length co91] 67 (0, 0)) (Z.bk BK367.out) hb)
      have n10_ := Aside0.mk (below_step (by repeat ((with_reducible exact HB.out))) hb)
      clear HO352
      clear HO355
      clear HO358
      clear HO363
      clear HO366
      clear HO370
      clear BK347
      clear BK367
      clear HB
      have HO352 := n0_
      have HO355 := n1_
      have HO358 := n2_
      have HO363 := n3_
      have HO366 := n4_
      have HO370 := n5_
      have HO375 := n6_
      have HO378 := n7_
      have BK347 := n8_
      have BK367 := n9_
      have HB := n10_
      clear n0_ n1_ n2_ n3_ n4_ n5_ n6_ n7_ n8_ n9_ n10_
      (try clear hb)
      (try clear ho0)
      (try clear ho1)
      obtain ⟨Ao98, co98, eo98⟩ := Kd.R_slice HO375.out
      (subst eo98)
      obtain ⟨Ao99, co99, eo99⟩ := Kd.R_slice HO378.out
      (subst eo99)
      refine hK.out _ _ ⟨(blk_cell BK367.out 0).trans rfl, (blk_cell BK367.out 1).trans rfl, (blk_cell BK367.out 2).trans rfl, (blk_cell BK347.out 0).trans rfl, (blk_cell BK347.out 1).trans rfl, (blk_cell BK347.out 2).trans rfl⟩ (fun hHeld => ?_)
      clear hK K
      refine Z.nm ?_
      refine one_ (i := 3) (N := some 48) (Z.mb 5 15) rfl rfl (by kernel_rfl) (by decide) (fun K hK => ?_)
      refine goes_ Try.func47 (by kernel_rfl) rfl #[.agg #[.int .i64 t360, .slice Ao90 t361.length co90, .slice Ao91 t364.length co91], .agg #[.int .i64 t372, .slice Ao98 t373.length co98, .slice Ao99 t376.length co99]] (by rfl) rfl rfl Z.ar ?_
      with_reducible refine (laws_eqCharter.calls k t360 _ _ t361 _ _ t364 t372 _ _ t373 _ _ t376 true _ ?side1 ?side2 ?side3 ?side4 ?side5 ?side6 ?side7 ?side8 A42.out).mono ?_
      (case side1 => repeat (exact (Kd.R_reads' HO363.out).2.2))
      (case side2 => exact (Kd.R_reads' HO363.out).2.1)
      (case side3 => repeat (exact (Kd.R_reads' HO366.out).2.2))
      (case side4 => exact (Kd.R_reads' HO366.out).2.1)
      (case side5 => repeat (exact (Kd.R_reads' HO375.out).2.2))
      (case side6 => exact (Kd.R_reads' HO375.out).2.1)
      (case side7 => repeat (exact (Kd.R_reads' HO378.out).2.2))
      (case side8 => exact (Kd.R_reads' HO378.out).2.1)
      rintro e w100 ⟨rfl, hb⟩
      refine ⟨_, rfl, ?_⟩
      have n0_ := Aside0.mk (Kd.R_below (by (with_reducible skip); exact HO352.out) hb)
      have n1_ := Aside0.mk (Kd.R_below (by (with_reducible skip); exact HO355.out) hb)
      have n2_ := Aside0.mk (Kd.R_below (by (with_reducible skip); exact HO358.out) hb)
      have n3_ := Aside0.mk (Kd.R_below (by (with_reducible skip); exact HO363.out) hb)
      have n4_ := Aside0.mk (Kd.R_below (by (with_reducible skip); exact HO366.out) hb)
      have n5_ := Aside0.mk (Kd.R_below (by (with_reducible skip); exact HO370.out) hb)
      have n6_ := Aside0.mk (Kd.R_below (by (with_reducible skip); exact HO375.out) hb)
      have n7_ := Aside0.mk (Kd.R_below (by (with_reducible skip); exact HO378.out) hb)
      have n8_ := Aside0.mk (blk_below (g := gb347) (o := .cells #[.int .i64 a0_0, .slice A0_1 l0_1.length c0_1, .slice A0_2 l0_2.length c0_2] 62 (0, 0)) (Z.bk BK347.out) hb)
      have n9_ := Aside0.mk (blk_below (g := gb367) (o := .cells #[.int .i64 t360, .slice Ao90 t361.length co90, .slice Ao91 t364.length co91] 67 (0, 0)) (Z.bk BK367.out) hb)
      have n10_ := Aside0.mk (below_step (by repeat ((with_reducible exact HB.out))) hb)
      clear HO352
      clear HO355
      clear HO358
      clear HO363
      clear HO366
      clear HO370
      clear HO375
      clear HO378
      clear BK347
      clear BK367
      clear HB
      have HO352 := n0_
      have HO355 := n1_
      have HO358 := n2_
      have HO363 := n3_
      have HO366 := n4_
      have HO370 := n5_
      have HO375 := n6_
      have HO378 := n7_
      have BK347 := n8_
      have BK367 := n9_
      have HB := n10_
      clear n0_ n1_ n2_ n3_ n4_ n5_ n6_ n7_ n8_ n9_ n10_
      (try clear hb)
      refine hK.out _ _ ⟨(blk_cell BK367.out 0).trans rfl, (blk_cell BK367.out 1).trans rfl, (blk_cell BK367.out 2).trans rfl, (blk_cell BK347.out 0).trans rfl, (blk_cell BK347.out 1).trans rfl, (blk_cell BK347.out 2).trans rfl⟩ (fun hHeld => ?_)
      clear hK K
      refine Z.nm ?_
      refine pure_ (i := 4) (N := some 49) (v := ?_) (a' := ?_) #[true, true, true, true, true] rfl rfl (by kernel_rfl) (fun _ _ _ h => h) (Or.inl ⟨by rfl, ?_⟩) ?_ ?_
      rotate_left
      ·intro w'
       go_simp
       with_reducible rfl
      rotate_left
      ·simp only [Act.put, List.setIfInBounds_toArray, List.set_cons_zero, List.set_cons_succ, i64_w, i32_w]
       rfl
      refine done_ (by kernel_rfl) ?_
      try go_wp2_with (first | ((with_reducible refine gate_callee (f := 45) rfl ?_); refine goesL_ (some 52) rfl rfl Try.func45 (by kernel_rfl) rfl #[.slice A1 l1.length c1] rfl Z.ar ?_; (with_reducible refine (laws_toIntS.calls k _ _ l1 t380 _ ?side1 ?side2 A44.out).mono ?_); (case side1 => exact Z.cb (Kd.C_below HR1.out HB.out)); (case side2 => exact HC1.out); rintro e w101 ⟨v381, rfl, ho0, hb⟩; refine ⟨_, rfl, ?_⟩; have n0_ := Aside0.mk (Kd.R_elder' (by (with_reducible skip); exact HO352.out) (Kd.R_base ho0) hb); have n1_ := Aside0.mk (Kd.R_below (by (with_reducible skip); exact HO355.out) hb); have n2_ := Aside0.mk (Kd.R_elder' (by (with_reducible skip); exact HO358.out) (Kd.R_base ho0) hb); have n3_ := Aside0.mk (Kd.R_elder' (by (with_reducible skip); exact HO363.out) (Kd.R_base ho0) hb); have n4_ := Aside0.mk (Kd.R_below (by (with_reducible skip); exact HO366.out) hb); have n5_ := Aside0.mk (Kd.R_elder' (by (with_reducible skip); exact HO370.out) (Kd.R_base ho0) hb); have n6_ := Aside0.mk (Kd.R_elder' (by (with_reducible skip); exact HO375.out) (Kd.R_base ho0) hb); have n7_ := Aside0.mk (Kd.R_below (by (with_reducible skip); exact HO378.out) hb); have n8_ := Aside0.mk (Kd.R_lower (Kd.R_new' (Kd.R_new' (Kd.R_new' (Kd.R_new' (Kd.R_new' ho0 (Kd.R_lt (by (with_reducible skip); exact HO352.out))) (Kd.R_lt (by (with_reducible skip); exact HO358.out))) (Kd.R_lt (by (with_reducible skip); exact HO363.out))) (Kd.R_lt (by (with_reducible skip); exact HO370.out))) (Kd.R_lt (by (with_reducible skip); exact HO375.out))) (below_size (by repeat ((with_reducible exact HB.out))))); have n9_ := Aside0.mk (blk_below (g := gb347) (o := .cells #[.int .i64 a0_0, .slice A0_1 l0_1.length c0_1, .slice A0_2 l0_2.length c0_2] 62 (0, 0)) (Z.bk BK347.out) hb); have n10_ := Aside0.mk (blk_below (g := gb367) (o := .cells #[.int .i64 t360, .slice Ao90 t361.length co90, .slice Ao91 t364.length co91] 67 (0, 0)) (Z.bk BK367.out) hb); have n11_ := Aside0.mk (below_step (by repeat ((with_reducible exact HB.out))) hb); clear HO352; clear HO355; clear HO358; clear HO363; clear HO366; clear HO370; clear HO375; clear HO378; clear BK347; clear BK367; clear HB; have HO352 := n0_; have HO355 := n1_; have HO358 := n2_; have HO363 := n3_; have HO366 := n4_; have HO370 := n5_; have HO375 := n6_; have HO378 := n7_; have HO382 := n8_; have BK347 := n9_; have BK367 := n10_; have HB := n11_; clear n0_ n1_ n2_ n3_ n4_ n5_ n6_ n7_ n8_ n9_ n10_ n11_; (try clear hb); (try clear ho0); obtain ⟨Ao102, co102, eo102⟩ := Kd.R_slice HO382.out; subst eo102) | ((with_reducible refine gate_callee (f := 48) rfl ?_); refine goesL_ (some 53) rfl rfl Try.func48 (by kernel_rfl) rfl #[.slice Ao94 t368.length co94, .slice Ao102 t380.length co102] rfl Z.ar ?_; (with_reducible refine (laws_eqIntS.calls k _ _ t368 _ _ t380 false _ ?side1 ?side2 ?side3 ?side4 A45.out).mono ?_); (case side1 => repeat (exact (Kd.R_reads' HO370.out).2.2)); (case side2 => exact (Kd.R_reads' HO370.out).2.1); (case side3 => repeat (exact (Kd.R_reads' HO382.out).2.2)); (case side4 => exact (Kd.R_reads' HO382.out).2.1); rintro e w' ⟨rfl, ⟨nd, rfl⟩⟩; refine ⟨_, rfl, ?_⟩))
      go_ret
      exact ⟨by rfl, by repeat ((with_reducible first | exact HB.out | apply pw_below_drewN))⟩
    ·replace c43 := Bool.eq_false_iff.mpr c43
     subst c43
     have H1 : (some false) = some r := by rw [if_neg (show ¬ (false = true) by decide)] at H; exact H
     clear H
     have H := H1
     clear H1
     obtain rfl := Option.some.inj H
     go_enter Try.func9, Try.ntmps9
     try go_wp2_with (first | ((with_reducible refine gate_dst (N := 5) rfl ?_); refine box_event ?hg (N := 5) ?hd (cs := #[.int .i64 a0_0, .slice A0_1 l0_1.length c0_1, .slice A0_2 l0_2.length c0_2]) (t := 62) ?hr ?_; (case hd => rfl); (case hg => rfl); (case hr => (go_simp; done)); intro gb347 hg w103 hbox hb; have n0_ := Aside0.mk (below_step (Z.bl HB.out) hb); have n1_ := Aside0.mk (hbox); have n2_ := Aside0.mk ((by rw [hg]; exact (below_size (Z.bl HB.out)) : w.heap.size ≤ gb347)); have n3_ := Aside0.mk ((by rw [hg]; exact (below_size (Z.bl HB.out)) : w.heap.size ≤ gb347)); clear HB; have HB := n0_; have BK347 := n1_; have GW347 := n2_; have GE347 := n3_; clear n0_ n1_ n2_ n3_; clear hb hbox hg; have hcz104_0 : w103.cell? ⟨gb347, 0, none⟩ = some (.int .i64 a0_0) := (blk_cell BK347.out 0).trans rfl; have hcz104_1 : w103.cell? ⟨gb347, 1, none⟩ = some (.slice A0_1 l0_1.length c0_1) := (blk_cell BK347.out 1).trans rfl; have hcz104_2 : w103.cell? ⟨gb347, 2, none⟩ = some (.slice A0_2 l0_2.length c0_2) := (blk_cell BK347.out 2).trans rfl; have hfz104_0 := blk_frozen BK347.out 0; have hfz104_1 := blk_frozen BK347.out 1; have hfz104_2 := blk_frozen BK347.out 2) | ((with_reducible refine gate_callee (f := 42) rfl ?_); refine goesL_ (some 21) rfl rfl Try.func42 (by kernel_rfl) rfl #[.agg #[.int .i64 a0_0, .slice A0_1 l0_1.length c0_1, .slice A0_2 l0_2.length c0_2], .int .i64 1048576] rfl Z.ar ?_; (with_reducible refine (laws_szCharter.calls k a0_0 _ _ l0_1 _ _ l0_2 1048576 t348 _ ?side1 ?side2 ?side3 ?side4 A8.out).mono ?_); (case side1 => exact Z.cb (Kd.C_below HR0_1.out HB.out)); (case side2 => exact HC0_1.out); (case side3 => exact Z.cb (Kd.C_below HR0_2.out HB.out)); (case side4 => exact HC0_2.out); rintro e w105 ⟨rfl, hb⟩; refine ⟨_, rfl, ?_⟩; have n0_ := Aside0.mk (blk_below (g := gb347) (o := .cells #[.int .i64 a0_0, .slice A0_1 l0_1.length c0_1, .slice A0_2 l0_2.length c0_2] 62 (0, 0)) (Z.bk BK347.out) hb); have n1_ := Aside0.mk (below_step (Z.bs HB.out GE347.out) hb); clear BK347; clear HB; have BK347 := n0_; have HB := n1_; clear n0_ n1_; (try clear hb); have hcz106_0 : w105.cell? ⟨gb347, 0, none⟩ = some (.int .i64 a0_0) := (blk_cell BK347.out 0).trans rfl; have hcz106_1 : w105.cell? ⟨gb347, 1, none⟩ = some (.slice A0_1 l0_1.length c0_1) := (blk_cell BK347.out 1).trans rfl; have hcz106_2 : w105.cell? ⟨gb347, 2, none⟩ = some (.slice A0_2 l0_2.length c0_2) := (blk_cell BK347.out 2).trans rfl; have hfz106_0 := blk_frozen BK347.out 0; have hfz106_1 := blk_frozen BK347.out 1; have hfz106_2 := blk_frozen BK347.out 2) | ((with_reducible refine gate_callee (f := 44) rfl ?_); refine goesL_ (some 25) rfl rfl Try.func44 (by kernel_rfl) rfl #[.agg #[.int .i64 a0_0, .slice A0_1 l0_1.length c0_1, .slice A0_2 l0_2.length c0_2]] rfl Z.ar ?_; (with_reducible refine (laws_toCharter.calls k a0_0 _ _ l0_1 _ _ l0_2 t349 t350 t353 _ ?side1 ?side2 ?side3 ?side4 A13.out).mono ?_); (case side1 => exact Z.cb (Kd.C_below HR0_1.out HB.out)); (case side2 => exact HC0_1.out); (case side3 => exact Z.cb (Kd.C_below HR0_2.out HB.out)); (case side4 => exact HC0_2.out); rintro e w107 ⟨v351, v354, rfl, ho0, ho1, hb⟩; refine ⟨_, rfl, ?_⟩; have n0_ := Aside0.mk (Kd.R_lower ho0 (below_size (Z.bs HB.out GE347.out))); have n1_ := Aside0.mk (Kd.R_lower ho1 (below_size (Z.bs HB.out GE347.out))); have n2_ := Aside0.mk (blk_below (g := gb347) (o := .cells #[.int .i64 a0_0, .slice A0_1 l0_1.length c0_1, .slice A0_2 l0_2.length c0_2] 62 (0, 0)) (Z.bk BK347.out) hb); have n3_ := Aside0.mk (below_step (Z.bs HB.out GE347.out) hb); clear BK347; clear HB; have HO352 := n0_; have HO355 := n1_; have BK347 := n2_; have HB := n3_; clear n0_ n1_ n2_ n3_; (try clear hb); (try clear ho0); (try clear ho1)) | ((with_reducible refine gate_callee (f := 45) rfl ?_); refine goesL_ (some 27) rfl rfl Try.func45 (by kernel_rfl) rfl #[.slice A1 l1.length c1] rfl Z.ar ?_; (with_reducible refine (laws_toIntS.calls k _ _ l1 t356 _ ?side1 ?side2 A14.out).mono ?_); (case side1 => exact Z.cb (Kd.C_below HR1.out HB.out)); (case side2 => exact HC1.out); rintro e w108 ⟨v357, rfl, ho0, hb⟩; refine ⟨_, rfl, ?_⟩; have n0_ := Aside0.mk (Kd.R_elder' (by (with_reducible skip); exact HO352.out) (Kd.R_base ho0) hb); have n1_ := Aside0.mk (Kd.R_below (by (with_reducible skip); exact HO355.out) hb); have n2_ := Aside0.mk (Kd.R_lower (Kd.R_new' ho0 (Kd.R_lt (by (with_reducible skip); exact HO352.out))) (below_size (Z.bs HB.out GE347.out))); have n3_ := Aside0.mk (blk_below (g := gb347) (o := .cells #[.int .i64 a0_0, .slice A0_1 l0_1.length c0_1, .slice A0_2 l0_2.length c0_2] 62 (0, 0)) (Z.bk BK347.out) hb); have n4_ := Aside0.mk (below_step (Z.bs HB.out GE347.out) hb); clear HO352; clear HO355; clear BK347; clear HB; have HO352 := n0_; have HO355 := n1_; have HO358 := n2_; have BK347 := n3_; have HB := n4_; clear n0_ n1_ n2_ n3_ n4_; (try clear hb); (try clear ho0); obtain ⟨Ao109, co109, eo109⟩ := Kd.R_slice HO352.out; subst eo109; obtain ⟨Ao110, co110, eo110⟩ := Kd.R_slice HO355.out; subst eo110; obtain ⟨Ao111, co111, eo111⟩ := Kd.R_slice HO358.out; subst eo111) | ((with_reducible refine gate_callee (f := 43) rfl ?_); refine goesL_ (some 31) rfl rfl Try.func43 (by kernel_rfl) rfl #[.agg #[.int .i64 t349, .slice Ao109 t350.length co109, .slice Ao110 t353.length co110], .slice Ao111 t356.length co111, .int .i64 a2, .int .i64 a3, .int .i64 a4] rfl Z.ar ?_; (with_reducible refine (spec_MayChange.calls k t349 _ _ t350 _ _ t353 _ _ t356 a2 a3 a4 t359 _ ?side1 ?side2 ?side3 ?side4 ?side5 ?side6 A15.out).mono ?_); (case side1 => repeat (exact (Kd.R_reads' HO352.out).2.2)); (case side2 => exact (Kd.R_reads' HO352.out).2.1); (case side3 => repeat (exact (Kd.R_reads' HO355.out).2.2)); (case side4 => exact (Kd.R_reads' HO355.out).2.1); (case side5 => repeat (exact (Kd.R_reads' HO358.out).2.2)); (case side6 => exact (Kd.R_reads' HO358.out).2.1); rintro e w112 ⟨rfl, hb⟩; refine ⟨_, rfl, ?_⟩; have n0_ := Aside0.mk (Kd.R_below (by (with_reducible skip); exact HO352.out) hb); have n1_ := Aside0.mk (Kd.R_below (by (with_reducible skip); exact HO355.out) hb); have n2_ := Aside0.mk (Kd.R_below (by (with_reducible skip); exact HO358.out) hb); have n3_ := Aside0.mk (blk_below (g := gb347) (o := .cells #[.int .i64 a0_0, .slice A0_1 l0_1.length c0_1, .slice A0_2 l0_2.length c0_2] 62 (0, 0)) (Z.bk BK347.out) hb); have n4_ := Aside0.mk (below_step (Z.bs HB.out GE347.out) hb); clear HO352; clear HO355; clear HO358; clear BK347; clear HB; have HO352 := n0_; have HO355 := n1_; have HO358 := n2_; have BK347 := n3_; have HB := n4_; clear n0_ n1_ n2_ n3_ n4_; (try clear hb); have hcz113_0 : w112.cell? ⟨gb347, 0, none⟩ = some (.int .i64 a0_0) := (blk_cell BK347.out 0).trans rfl; have hcz113_1 : w112.cell? ⟨gb347, 1, none⟩ = some (.slice A0_1 l0_1.length c0_1) := (blk_cell BK347.out 1).trans rfl; have hcz113_2 : w112.cell? ⟨gb347, 2, none⟩ = some (.slice A0_2 l0_2.length c0_2) := (blk_cell BK347.out 2).trans rfl; have hfz113_0 := blk_frozen BK347.out 0; have hfz113_1 := blk_frozen BK347.out 1; have hfz113_2 := blk_frozen BK347.out 2) | ((with_reducible refine gate_callee (f := 44) rfl ?_); refine goesL_ (some 33) rfl rfl Try.func44 (by kernel_rfl) rfl #[.agg #[.int .i64 a0_0, .slice A0_1 l0_1.length c0_1, .slice A0_2 l0_2.length c0_2]] rfl Z.ar ?_; (with_reducible refine (laws_toCharter.calls k a0_0 _ _ l0_1 _ _ l0_2 t360 t361 t364 _ ?side1 ?side2 ?side3 ?side4 A16.out).mono ?_); (case side1 => exact Z.cb (Kd.C_below HR0_1.out HB.out)); (case side2 => exact HC0_1.out); (case side3 => exact Z.cb (Kd.C_below HR0_2.out HB.out)); (case side4 => exact HC0_2.out); rintro e w114 ⟨v362, v365, rfl, ho0, ho1, hb⟩; refine ⟨_, rfl, ?_⟩; have n0_ := Aside0.mk (Kd.R_elder' (by (with_reducible skip); exact HO352.out) (Kd.R_base ho0) hb); have n1_ := Aside0.mk (Kd.R_elder' (by (with_reducible skip); exact HO355.out) (Kd.R_base ho1) hb); have n2_ := Aside0.mk (Kd.R_elder' (by (with_reducible skip); exact HO358.out) (Kd.R_base ho0) hb); have n3_ := Aside0.mk (Kd.R_lower (Kd.R_new' (Kd.R_new' ho0 (Kd.R_lt (by (with_reducible skip); exact HO352.out))) (Kd.R_lt (by (with_reducible skip); exact HO358.out))) (below_size (Z.bs HB.out GE347.out))); have n4_ := Aside0.mk (Kd.R_lower (Kd.R_new' ho1 (Kd.R_lt (by (with_reducible skip); exact HO355.out))) (below_size (Z.bs HB.out GE347.out))); have n5_ := Aside0.mk (blk_below (g := gb347) (o := .cells #[.int .i64 a0_0, .slice A0_1 l0_1.length c0_1, .slice A0_2 l0_2.length c0_2] 62 (0, 0)) (Z.bk BK347.out) hb); have n6_ := Aside0.mk (below_step (Z.bs HB.out GE347.out) hb); clear HO352; clear HO355; clear HO358; clear BK347; clear HB; have HO352 := n0_; have HO355 := n1_; have HO358 := n2_; have HO363 := n3_; have HO366 := n4_; have BK347 := n5_; have HB := n6_; clear n0_ n1_ n2_ n3_ n4_ n5_ n6_; (try clear hb); (try clear ho0); (try clear ho1)) | ((with_reducible refine gate_dst (N := 13) rfl ?_); refine box_event ?hg (N := 13) ?hd (cs := #[.int .i64 0, .slice none 0 0, .slice none 0 0]) (t := 67) ?hr ?_; (case hd => rfl); (case hg => rfl); (case hr => (go_simp; done)); intro gb367 hg w115 hbox hb; have n0_ := Aside0.mk (Kd.R_below (by (with_reducible skip); exact HO352.out) hb); have n1_ := Aside0.mk (Kd.R_below (by (with_reducible skip); exact HO355.out) hb); have n2_ := Aside0.mk (Kd.R_below (by (with_reducible skip); exact HO358.out) hb); have n3_ := Aside0.mk (Kd.R_below (by (with_reducible skip); exact HO363.out) hb); have n4_ := Aside0.mk (Kd.R_below (by (with_reducible skip); exact HO366.out) hb); have n5_ := Aside0.mk (blk_below (g := gb347) (o := .cells #[.int .i64 a0_0, .slice A0_1 l0_1.length c0_1, .slice A0_2 l0_2.length c0_2] 62 (0, 0)) (Z.bk BK347.out) hb); have n6_ := Aside0.mk (below_step (Z.bs HB.out GE347.out) hb); have n7_ := Aside0.mk (hbox); have n8_ := Aside0.mk ((by rw [hg]; exact (below_size (Z.bs HB.out GE347.out)) : w.heap.size ≤ gb367)); have n9_ := Aside0.mk ((by rw [hg]; exact (below_size (Z.bs HB.out GE347.out)) : w.heap.size ≤ gb367)); have n10_ := Aside0.mk ((by rw [hg]; exact Nat.ne_of_lt (blk_lt (g := gb347) (o := .cells #[.int .i64 a0_0, .slice A0_1 l0_1.length c0_1, .slice A0_2 l0_2.length c0_2] 62 (0, 0)) (Z.bk BK347.out)) : gb347 ≠ gb367)); have n11_ := Aside0.mk ((by rw [hg]; exact Nat.ne_of_gt (blk_lt (g := gb347) (o := .cells #[.int .i64 a0_0, .slice A0_1 l0_1.length c0_1, .slice A0_2 l0_2.length c0_2] 62 (0, 0)) (Z.bk BK347.out)) : gb367 ≠ gb347)); clear HO352; clear HO355; clear HO358; clear HO363; clear HO366; clear BK347; clear HB; have HO352 := n0_; have HO355 := n1_; have HO358 := n2_; have HO363 := n3_; have HO366 := n4_; have BK347 := n5_; have HB := n6_; have BK367 := n7_; have GW367 := n8_; have GE367 := n9_; have NB347_367 := n10_; have NB367_347 := n11_; clear n0_ n1_ n2_ n3_ n4_ n5_ n6_ n7_ n8_ n9_ n10_ n11_; clear hb hbox hg; have hnb116 := NB367_347.out; have hnc116 := NB347_367.out; have hcz117_0 : w115.cell? ⟨gb367, 0, none⟩ = some (.int .i64 0) := (blk_cell BK367.out 0).trans rfl; have hcz117_1 : w115.cell? ⟨gb367, 1, none⟩ = some (.slice none 0 0) := (blk_cell BK367.out 1).trans rfl; have hcz117_2 : w115.cell? ⟨gb367, 2, none⟩ = some (.slice none 0 0) := (blk_cell BK367.out 2).trans rfl; have hfz117_0 := blk_frozen BK367.out 0; have hfz117_1 := blk_frozen BK367.out 1; have hfz117_2 := blk_frozen BK367.out 2; obtain ⟨Ao118, co118, eo118⟩ := Kd.R_slice HO363.out; subst eo118; obtain ⟨Ao119, co119, eo119⟩ := Kd.R_slice HO366.out; subst eo119) | ((with_reducible refine gate_callee (f := 45) rfl ?_); refine goesL_ (some 35) rfl rfl Try.func45 (by kernel_rfl) rfl #[.slice A1 l1.length c1] rfl Z.ar ?_; (with_reducible refine (laws_toIntS.calls k _ _ l1 t368 _ ?side1 ?side2 A17.out).mono ?_); (case side1 => exact Kd.C_below HR1.out (by repeat ((with_reducible first | exact HB.out | refine below_set ?_ GE367.out)))); (case side2 => exact HC1.out); rintro e w120 ⟨v369, rfl, ho0, hb⟩; refine ⟨_, rfl, ?_⟩; have n0_ := Aside0.mk (Kd.R_elder' (by (with_reducible skip); exact (Kd.R_mono (Kd.R_far (p := ⟨gb367, 2, none⟩) (Kd.R_far (p := ⟨gb367, 1, none⟩) (Kd.R_far (p := ⟨gb367, 0, none⟩) (Kd.R_types HO352.out BK367.out (by decide)) (fun _ hk => hk.2) (.int .i64 t360)) (fun _ hk => hk.2) (.slice Ao118 t361.length co118)) (fun _ hk => hk.2) (.slice Ao119 t364.length co119)) (fun _ h_ => h_.1))) (Kd.R_base ho0) hb); have n1_ := Aside0.mk (Kd.R_below (by (with_reducible skip); exact (Kd.R_mono (Kd.R_far (p := ⟨gb367, 2, none⟩) (Kd.R_far (p := ⟨gb367, 1, none⟩) (Kd.R_far (p := ⟨gb367, 0, none⟩) (Kd.R_types HO355.out BK367.out (by decide)) (fun _ hk => hk.2) (.int .i64 t360)) (fun _ hk => hk.2) (.slice Ao118 t361.length co118)) (fun _ hk => hk.2) (.slice Ao119 t364.length co119)) (fun _ h_ => h_.1))) hb); have n2_ := Aside0.mk (Kd.R_elder' (by (with_reducible skip); exact (Kd.R_mono (Kd.R_far (p := ⟨gb367, 2, none⟩) (Kd.R_far (p := ⟨gb367, 1, none⟩) (Kd.R_far (p := ⟨gb367, 0, none⟩) (Kd.R_types HO358.out BK367.out (by decide)) (fun _ hk => hk.2) (.int .i64 t360)) (fun _ hk => hk.2) (.slice Ao118 t361.length co118)) (fun _ hk => hk.2) (.slice Ao119 t364.length co119)) (fun _ h_ => h_.1))) (Kd.R_base ho0) hb); have n3_ := Aside0.mk (Kd.R_elder' (by (with_reducible skip); exact (Kd.R_mono (Kd.R_far (p := ⟨gb367, 2, none⟩) (Kd.R_far (p := ⟨gb367, 1, none⟩) (Kd.R_far (p := ⟨gb367, 0, none⟩) (Kd.R_types HO363.out BK367.out (by decide)) (fun _ hk => hk.2) (.int .i64 t360)) (fun _ hk => hk.2) (.slice Ao118 t361.length co118)) (fun _ hk => hk.2) (.slice Ao119 t364.length co119)) (fun _ h_ => h_.1))) (Kd.R_base ho0) hb); have n4_ := Aside0.mk (Kd.R_below (by (with_reducible skip); exact (Kd.R_mono (Kd.R_far (p := ⟨gb367, 2, none⟩) (Kd.R_far (p := ⟨gb367, 1, none⟩) (Kd.R_far (p := ⟨gb367, 0, none⟩) (Kd.R_types HO366.out BK367.out (by decide)) (fun _ hk => hk.2) (.int .i64 t360)) (fun _ hk => hk.2) (.slice Ao118 t361.length co118)) (fun _ hk => hk.2) (.slice Ao119 t364.length co119)) (fun _ h_ => h_.1))) hb); have n5_ := Aside0.mk (Kd.R_lower (Kd.R_new' (Kd.R_new' (Kd.R_new' ho0 (Kd.R_lt (by (with_reducible skip); exact (Kd.R_mono (Kd.R_far (p := ⟨gb367, 2, none⟩) (Kd.R_far (p := ⟨gb367, 1, none⟩) (Kd.R_far (p := ⟨gb367, 0, none⟩) (Kd.R_types HO352.out BK367.out (by decide)) (fun _ hk => hk.2) (.int .i64 t360)) (fun _ hk => hk.2) (.slice Ao118 t361.length co118)) (fun _ hk => hk.2) (.slice Ao119 t364.length co119)) (fun _ h_ => h_.1))))) (Kd.R_lt (by (with_reducible skip); exact (Kd.R_mono (Kd.R_far (p := ⟨gb367, 2, none⟩) (Kd.R_far (p := ⟨gb367, 1, none⟩) (Kd.R_far (p := ⟨gb367, 0, none⟩) (Kd.R_types HO358.out BK367.out (by decide)) (fun _ hk => hk.2) (.int .i64 t360)) (fun _ hk => hk.2) (.slice Ao118 t361.length co118)) (fun _ hk => hk.2) (.slice Ao119 t364.length co119)) (fun _ h_ => h_.1))))) (Kd.R_lt (by (with_reducible skip); exact (Kd.R_mono (Kd.R_far (p := ⟨gb367, 2, none⟩) (Kd.R_far (p := ⟨gb367, 1, none⟩) (Kd.R_far (p := ⟨gb367, 0, none⟩) (Kd.R_types HO363.out BK367.out (by decide)) (fun _ hk => hk.2) (.int .i64 t360)) (fun _ hk => hk.2) (.slice Ao118 t361.length co118)) (fun _ hk => hk.2) (.slice Ao119 t364.length co119)) (fun _ h_ => h_.1))))) (below_size (by repeat ((with_reducible first | exact HB.out | refine below_set ?_ GE367.out))))); have n6_ := Aside0.mk (blk_below (g := gb347) (o := .cells #[.int .i64 a0_0, .slice A0_1 l0_1.length c0_1, .slice A0_2 l0_2.length c0_2] 62 (0, 0)) (by (with_reducible skip); refine blk_far ?_ NB347_367.out _; (with_reducible skip); refine blk_far ?_ NB347_367.out _; (with_reducible skip); refine blk_far ?_ NB347_367.out _; (with_reducible skip); exact BK347.out) hb); have n7_ := Aside0.mk (blk_below (g := gb367) (o := .cells #[.int .i64 t360, .slice Ao118 t361.length co118, .slice Ao119 t364.length co119] 67 (0, 0)) (by (with_reducible skip); refine blk_put (cs := #[.int .i64 t360, .slice Ao118 t361.length co118, .slice none 0 0]) ?_ 2 _ rfl; (with_reducible skip); refine blk_put (cs := #[.int .i64 t360, .slice none 0 0, .slice none 0 0]) ?_ 1 _ rfl; (with_reducible skip); refine blk_put (cs := #[.int .i64 0, .slice none 0 0, .slice none 0 0]) ?_ 0 _ rfl; (with_reducible skip); exact BK367.out) hb); have n8_ := Aside0.mk (below_step (by repeat ((with_reducible first | exact HB.out | refine below_set ?_ GE367.out))) hb); clear HO352; clear HO355; clear HO358; clear HO363; clear HO366; clear BK347; clear BK367; clear HB; have HO352 := n0_; have HO355 := n1_; have HO358 := n2_; have HO363 := n3_; have HO366 := n4_; have HO370 := n5_; have BK347 := n6_; have BK367 := n7_; have HB := n8_; clear n0_ n1_ n2_ n3_ n4_ n5_ n6_ n7_ n8_; (try clear hb); (try clear ho0); have hcz121_0 : w120.cell? ⟨gb367, 0, none⟩ = some (.int .i64 t360) := (blk_cell BK367.out 0).trans rfl; have hcz121_1 : w120.cell? ⟨gb367, 1, none⟩ = some (.slice Ao118 t361.length co118) := (blk_cell BK367.out 1).trans rfl; have hcz121_2 : w120.cell? ⟨gb367, 2, none⟩ = some (.slice Ao119 t364.length co119) := (blk_cell BK367.out 2).trans rfl; have hfz121_0 := blk_frozen BK367.out 0; have hfz121_1 := blk_frozen BK367.out 1; have hfz121_2 := blk_frozen BK367.out 2; obtain ⟨Ao122, co122, eo122⟩ := Kd.R_slice HO370.out; subst eo122) | ((with_reducible refine gate_callee (f := 46) rfl ?_); refine goesL_ (some 41) rfl rfl Try.func46 (by kernel_rfl) rfl #[.agg #[.int .i64 t360, .slice Ao118 t361.length co118, .slice Ao119 t364.length co119], .slice Ao122 t368.length co122, .int .i64 a2, .int .i64 a3, .int .i64 a4] rfl Z.ar ?_; (with_reducible refine (impl_MayChange.calls k t360 _ _ t361 _ _ t364 _ _ t368 a2 a3 a4 t371 _ ?side1 ?side2 ?side3 ?side4 ?side5 ?side6 A18.out).mono ?_); (case side1 => repeat (exact (Kd.R_reads' HO363.out).2.2)); (case side2 => exact (Kd.R_reads' HO363.out).2.1); (case side3 => repeat (exact (Kd.R_reads' HO366.out).2.2)); (case side4 => exact (Kd.R_reads' HO366.out).2.1); (case side5 => repeat (exact (Kd.R_reads' HO370.out).2.2)); (case side6 => exact (Kd.R_reads' HO370.out).2.1); rintro e w123 ⟨rfl, hb⟩; refine ⟨_, rfl, ?_⟩; have n0_ := Aside0.mk (Kd.R_below (by (with_reducible skip); exact HO352.out) hb); have n1_ := Aside0.mk (Kd.R_below (by (with_reducible skip); exact HO355.out) hb); have n2_ := Aside0.mk (Kd.R_below (by (with_reducible skip); exact HO358.out) hb); have n3_ := Aside0.mk (Kd.R_below (by (with_reducible skip); exact HO363.out) hb); have n4_ := Aside0.mk (Kd.R_below (by (with_reducible skip); exact HO366.out) hb); have n5_ := Aside0.mk (Kd.R_below (by (with_reducible skip); exact HO370.out) hb); have n6_ := Aside0.mk (blk_below (g := gb347) (o := .cells #[.int .i64 a0_0, .slice A0_1 l0_1.length c0_1, .slice A0_2 l0_2.length c0_2] 62 (0, 0)) (Z.bk BK347.out) hb); have n7_ := Aside0.mk (blk_below (g := gb367) (o := .cells #[.int .i64 t360, .slice Ao118 t361.length co118, .slice Ao119 t364.length co119] 67 (0, 0)) (Z.bk BK367.out) hb); have n8_ := Aside0.mk (below_step (by repeat ((with_reducible exact HB.out))) hb); clear HO352; clear HO355; clear HO358; clear HO363; clear HO366; clear HO370; clear BK347; clear BK367; clear HB; have HO352 := n0_; have HO355 := n1_; have HO358 := n2_; have HO363 := n3_; have HO366 := n4_; have HO370 := n5_; have BK347 := n6_; have BK367 := n7_; have HB := n8_; clear n0_ n1_ n2_ n3_ n4_ n5_ n6_ n7_ n8_; (try clear hb)))
     have n0_ := Aside0.mk (Kd.R_drew HO352.out)
     have n1_ := Aside0.mk (Kd.R_drew HO355.out)
     have n2_ := Aside0.mk (Kd.R_drew HO358.out)
     have n3_ := Aside0.mk (Kd.R_drew HO363.out)
     have n4_ := Aside0.mk (Kd.R_drew HO366.out)
     have n5_ := Aside0.mk (Kd.R_drew HO370.out)
     have n6_ := Aside0.mk (blk_drew BK347.out)
     have n7_ := Aside0.mk (blk_drew BK367.out)
     have n8_ := Aside0.mk (below_drew1 HB.out)
     clear HO352
     clear HO355
     clear HO358
     clear HO363
     clear HO366
     clear HO370
     clear BK347
     clear BK367
     clear HB
     have HO352 := n0_
     have HO355 := n1_
     have HO358 := n2_
     have HO363 := n3_
     have HO366 := n4_
     have HO370 := n5_
     have BK347 := n6_
     have BK367 := n7_
     have HB := n8_
     clear n0_ n1_ n2_ n3_ n4_ n5_ n6_ n7_ n8_
     refine start_ (n := 5) (S := fun w' => w'.cell? ⟨gb367, 0, none⟩ = some (.int .i64 t360) ∧ w'.cell? ⟨gb367, 1, none⟩ = some (.slice Ao118 t361.length co118) ∧ w'.cell? ⟨gb367, 2, none⟩ = some (.slice Ao119 t364.length co119) ∧ w'.cell? ⟨gb347, 0, none⟩ = some (.int .i64 a0_0) ∧ w'.cell? ⟨gb347, 1, none⟩ = some (.slice A0_1 l0_1.length c0_1) ∧ w'.cell? ⟨gb347, 2, none⟩ = some (.slice A0_2 l0_2.length c0_2)) (ds := []) #[false, false, false, false, false] (by kernel_rfl) rfl rfl ⟨(blk_cell BK367.out 0).trans rfl, (blk_cell BK367.out 1).trans rfl, (blk_cell BK367.out 2).trans rfl, (blk_cell BK347.out 0).trans rfl, (blk_cell BK347.out 1).trans rfl, (blk_cell BK347.out 2).trans rfl⟩ (fun hHeld => ?_)
     generalize w123.drew = w124 at HO352 HO355 HO358 HO363 HO366 HO370 BK347 BK367 HB hHeld ⊢
     refine take_ (i := 0) (N := some 45) (v := ?_) (a' := ?_) #[true, false, false, false, false] rfl rfl (by kernel_rfl) (fun _ _ _ h => h) (Or.inl ⟨by rfl, ?_⟩) hHeld ?_ ?_
     rotate_left
     ·rintro w' ⟨s0, s1, s2, s3, s4, s5⟩
      go_simp
      with_reducible rfl
     rotate_left
     ·simp only [Act.put, List.setIfInBounds_toArray, List.set_cons_zero, List.set_cons_succ, i64_w, i32_w]
      rfl
     refine take_ (i := 1) (N := some 46) (v := ?_) (a' := ?_) #[true, true, false, false, false] rfl rfl (by kernel_rfl) (fun _ _ _ h => h) (Or.inl ⟨by rfl, ?_⟩) hHeld ?_ ?_
     rotate_left
     ·rintro w' ⟨s0, s1, s2, s3, s4, s5⟩
      go_simp
      with_reducible rfl
     rotate_left
     ·simp only [Act.put, List.setIfInBounds_toArray, List.set_cons_zero, List.set_cons_succ, i64_w, i32_w]
      rfl
     refine one_ (i := 2) (N := some 47) (Z.mb 5 7) rfl rfl (by kernel_rfl) (by decide) (fun K hK => ?_)
     refine goes_ Try.func44 (by kernel_rfl) rfl #[.agg #[.int .i64 a0_0, .slice A0_1 l0_1.length c0_1, .slice A0_2 l0_2.length c0_2]] (by rfl) rfl rfl Z.ar ?_
     with_reducible refine (laws_toCharter.calls k a0_0 _ _ l0_1 _ _ l0_2 t372 t373 t376 _ ?side1 ?side2 ?side3 ?side4 A41.out).mono ?_
     (case side1 => exact Z.cb (Kd.C_below HR0_1.out HB.out))
     (case side2 => exact HC0_1.out)
     (case side3 => exact Z.cb (Kd.C_below HR0_2.out HB.out))
     (case side4 => exact HC0_2.out)
     rintro e w125 ⟨v374, v377, rfl, ho0, ho1, hb⟩
     refine ⟨_, rfl, ?_⟩
     have n0_ := Aside0.mk (Kd.R_elder' (by (with_reducible skip); exact HO352.out) (Kd.R_base ho0) hb)
     have n1_ := Aside0.mk (Kd.R_elder' (by (with_reducible skip); exact HO355.out) (Kd.R_base ho1) hb)
     have n2_ := Aside0.mk (Kd.R_elder' (by (with_reducible skip); exact HO358.out) (Kd.R_base ho0) hb)
     have n3_ := Aside0.mk (Kd.R_elder' (by (with_reducible skip); exact HO363.out) (Kd.R_base ho0) hb)
     have n4_ := Aside0.mk (Kd.R_elder' (by (with_reducible skip); exact HO366.out) (Kd.R_base ho1) hb)
     have n5_ := Aside0.mk (Kd.R_elder' (by (with_reducible skip); exact HO370.out) (Kd.R_base ho0) hb)
     have n6_ := Aside0.mk (Kd.R_lower (Kd.R_new' (Kd.R_new' (Kd.R_new' (Kd.R_new' ho0 (Kd.R_lt (by (with_reducible skip); exact HO352.out))) (Kd.R_lt (by (with_reducible skip); exact HO358.out))) (Kd.R_lt (by (with_reducible skip); exact HO363.out))) (Kd.R_lt (by (with_reducible skip); exact HO370.out))) (below_size (by repeat ((with_reducible exact HB.out)))))
     have n7_ := Aside0.mk (Kd.R_lower (Kd.R_new' (Kd.R_new' ho1 (Kd.R_lt (by (with_reducible skip); exact HO355.out))) (Kd.R_lt (by (with_reducible skip); exact HO366.out))) (below_size (by repeat ((with_reducible exact HB.out)))))
     have n8_ := Aside0.mk (blk_below (g := gb347) (o := .cells #[.int .i64 a0_0, .slice A0_1 l0_1.length c0_1, .slice A0_2 l0_2.length c0_2] 62 (0, 0)) (Z.bk BK347.out) hb)
     have n9_ := Aside0.mk (blk_below (g := gb367) (o := .cells #[.int .i64 t360, .slice Ao118 t361.length co118, .slice Ao119 t364.length co119] 67 (0, 0)) (Z.bk BK367.out) hb)
     have n10_ := Aside0.mk (below_step (by repeat ((with_reducible exact HB.out))) hb)
     clear HO352
     clear HO355
     clear HO358
     clear HO363
     clear HO366
     clear HO370
     clear BK347
     clear BK367
     clear HB
     have HO352 := n0_
     have HO355 := n1_
     have HO358 := n2_
     have HO363 := n3_
     have HO366 := n4_
     have HO370 := n5_
     have HO375 := n6_
     have HO378 := n7_
     have BK347 := n8_
     have BK367 := n9_
     have HB := n10_
     clear n0_ n1_ n2_ n3_ n4_ n5_ n6_ n7_ n8_ n9_ n10_
     (try clear hb)
     (try clear ho0)
     (try clear ho1)
     obtain ⟨Ao126, co126, eo126⟩ := Kd.R_slice HO375.out
     (subst eo126)
     obtain ⟨Ao127, co127, eo127⟩ := Kd.R_slice HO378.out
     (subst eo127)
     refine hK.out _ _ ⟨(blk_cell BK367.out 0).trans rfl, (blk_cell BK367.out 1).trans rfl, (blk_cell BK367.out 2).trans rfl, (blk_cell BK347.out 0).trans rfl, (blk_cell BK347.out 1).trans rfl, (blk_cell BK347.out 2).trans rfl⟩ (fun hHeld => ?_)
     clear hK K
     refine Z.nm ?_
     refine one_ (i := 3) (N := some 48) (Z.mb 5 15) rfl rfl (by kernel_rfl) (by decide) (fun K hK => ?_)
     refine goes_ Try.func47 (by kernel_rfl) rfl #[.agg #[.int .i64 t360, .slice Ao118 t361.length co118, .slice Ao119 t364.length co119], .agg #[.int .i64 t372, .slice Ao126 t373.length co126, .slice Ao127 t376.length co127]] (by rfl) rfl rfl Z.ar ?_
     with_reducible refine (laws_eqCharter.calls k t360 _ _ t361 _ _ t364 t372 _ _ t373 _ _ t376 false _ ?side1 ?side2 ?side3 ?side4 ?side5 ?side6 ?side7 ?side8 A42.out).mono ?_
     (case side1 => repeat (exact (Kd.R_reads' HO363.out).2.2))
     (case side2 => exact (Kd.R_reads' HO363.out).2.1)
     (case side3 => repeat (exact (Kd.R_reads' HO366.out).2.2))
     (case side4 => exact (Kd.R_reads' HO366.out).2.1)
     (case side5 => repeat (exact (Kd.R_reads' HO375.out).2.2))
     (case side6 => exact (Kd.R_reads' HO375.out).2.1)
     (case side7 => repeat (exact (Kd.R_reads' HO378.out).2.2))
     (case side8 => exact (Kd.R_reads' HO378.out).2.1)
     rintro e w128 ⟨rfl, hb⟩
     refine ⟨_, rfl, ?_⟩
     have n0_ := Aside0.mk (Kd.R_below (by (with_reducible skip); exact HO352.out) hb)
     have n1_ := Aside0.mk (Kd.R_below (by (with_reducible skip); exact HO355.out) hb)
     have n2_ := Aside0.mk (Kd.R_below (by (with_reducible skip); exact HO358.out) hb)
     have n3_ := Aside0.mk (Kd.R_below (by (with_reducible skip); exact HO363.out) hb)
     have n4_ := Aside0.mk (Kd.R_below (by (with_reducible skip); exact HO366.out) hb)
     have n5_ := Aside0.mk (Kd.R_below (by (with_reducible skip); exact HO370.out) hb)
     have n6_ := Aside0.mk (Kd.R_below (by (with_reducible skip); exact HO375.out) hb)
     have n7_ := Aside0.mk (Kd.R_below (by (with_reducible skip); exact HO378.out) hb)
     have n8_ := Aside0.mk (blk_below (g := gb347) (o := .cells #[.int .i64 a0_0, .slice A0_1 l0_1.length c0_1, .slice A0_2 l0_2.length c0_2] 62 (0, 0)) (Z.bk BK347.out) hb)
     have n9_ := Aside0.mk (blk_below (g := gb367) (o := .cells #[.int .i64 t360, .slice Ao118 t361.length co118, .slice Ao119 t364.length co119] 67 (0, 0)) (Z.bk BK367.out) hb)
     have n10_ := Aside0.mk (below_step (by repeat ((with_reducible exact HB.out))) hb)
     clear HO352
     clear HO355
     clear HO358
     clear HO363
     clear HO366
     clear HO370
     clear HO375
     clear HO378
     clear BK347
     clear BK367
     clear HB
     have HO352 := n0_
     have HO355 := n1_
     have HO358 := n2_
     have HO363 := n3_
     have HO366 := n4_
     have HO370 := n5_
     have HO375 := n6_
     have HO378 := n7_
     have BK347 := n8_
     have BK367 := n9_
     have HB := n10_
     clear n0_ n1_ n2_ n3_ n4_ n5_ n6_ n7_ n8_ n9_ n10_
     (try clear hb)
     refine hK.out _ _ ⟨(blk_cell BK367.out 0).trans rfl, (blk_cell BK367.out 1).trans rfl, (blk_cell BK367.out 2).trans rfl, (blk_cell BK347.out 0).trans rfl, (blk_cell BK347.out 1).trans rfl, (blk_cell BK347.out 2).trans rfl⟩ (fun hHeld => ?_)
     clear hK K
     refine Z.nm ?_
     refine pure_ (i := 4) (N := some 49) (v := ?_) (a' := ?_) #[true, true, true, true, true] rfl rfl (by kernel_rfl) (fun _ _ _ h => h) (Or.inl ⟨by rfl, ?_⟩) ?_ ?_
     rotate_left
     ·intro w'
      go_simp
      with_reducible rfl
     rotate_left
     ·simp only [Act.put, List.setIfInBounds_toArray, List.set_cons_zero, List.set_cons_succ, i64_w, i32_w]
      rfl
     refine done_ (by kernel_rfl) ?_
     try go_wp2
     go_ret
     exact ⟨by rfl, by repeat ((with_reducible exact HB.out))⟩

end Go.Proofs.Ytiiddglmoffonaa.PFnExactMayChange

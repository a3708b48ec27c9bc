/- The row of FnExactMayChange: For every charter, state, clause, variant and crowd the program's MayChange answers as the reference's, and leaves what it is given as it was. Condition: none. -/
import Derived.Test.YtiiddglmoffonaaRows
import Derived.Test.YtiiddglmoffonaaCFnExactMayChange17
import Derived.Test.YtiiddglmoffonaaPureFnExactMayChange
import Derived.Test.YtiiddglmoffonaaO
import Derived.WalkKit
import Derived.ProofKit
import Derived.OpenShut
import Derived.ShutString
import Derived.ChangeOld
import Derived.Below
import Derived.SizedLaws
import Derived.ChangeSlices
namespace Go.Proofs.Ytiiddglmoffonaa.fnExactMayChange
open Go.ChangeShapes Go.WideShapes Go.ChangeAt Go.RowKit Go.Proofs.YtiiddglmoffonaaW.PrintWords
set_option linter.unusedVariables false
set_option linter.unusedSimpArgs false
theorem own : ownKnob Try.prog.godebug = none := by kernel_rfl
theorem laidOut : laidOutB Try.prog = true := by kernel_rfl
set_option maxRecDepth 100000 in
theorem lifted (os : Os) (started : os.Started) (H : Type) (enc : TypeId × Value → H) :
    ReturnsInHanded {} Try.checked os 9 .any (Rows.fnExactMayChangeSpec.pre6 enc Try.prog Try.f9 Rows.fnExactMayChangeRow.domain false) (Rows.fnExactMayChangeSpec.post enc Try.prog Try.f9 false true false false) := by
  refine returnsInHanded_of_change_sized (C := Try.checked) own started (by kernel_rfl) Try.func9
    (ChangeSpec.witness6 (enc := enc) (C := Try.checked) false ⟨#[], #[.agg #[.int .i64 0, .slice none 0 0, .slice none 0 0], .slice none 0 0, .int .i64 0, .int .i64 0, .int .i64 0], []⟩ 8 (by kernel_rfl) (by kernel_rfl) (by kernel_rfl) (by kernel_rfl)) ?_
  intro W base args ds gs before hval0 hW hcnd hsz0 _
  have hval : ∀ (j : Nat) t v, Try.f9.params[j]? = some t → args[j]? = some v → Value.okWide Try.prog W .any base t v := hval0
  have hW' := hW
  obtain ⟨p, q, hA0, hV, rfl, hfz, hnd⟩ := hW
  have hA : DataW.TrodAll enc Try.prog W 0 (fun _ => true) true Try.f9.params.toList args.toList ds p := hA0
  rw [Try.params9] at hA hval
  obtain ⟨v0, vs0, d0, ds0, p0, q0, hargs, rfl, rfl, h0, r0⟩ := trodAll_cons hA
  obtain ⟨v1, vs1, d1, ds1, p1, q1, rfl, rfl, rfl, h1, r1⟩ := trodAll_cons r0
  obtain ⟨v2, vs2, d2, ds2, p2, q2, rfl, rfl, rfl, h2, r2⟩ := trodAll_cons r1
  obtain ⟨v3, vs3, d3, ds3, p3, q3, rfl, rfl, rfl, h3, r3⟩ := trodAll_cons r2
  obtain ⟨v4, vs4, d4, ds4, p4, q4, rfl, rfl, rfl, h4, r4⟩ := trodAll_cons r3
  obtain ⟨rfl, rfl, rfl⟩ := trodAll_nil r4
  obtain rfl : args = #[v0, v1, v2, v3, v4] := by cases args; simp_all
  obtain ⟨rfl, rfl⟩ := trodVars_none hV
  have o3 := O.opens_int (W := W) (k := .i64) Try.underlying3
  have o23 := O.opens_slice (W := W) (d := (Kd.int .i64)) Try.underlying23 (by kernel_rfl) o3
  have o50t := O.opens_pair (P := Try.prog) (W := W) (t := 50) Try.underlying50 ⟨by kernel_rfl, by kernel_rfl, by kernel_rfl, by kernel_rfl, by kernel_rfl⟩ o3 o23
  have o950 := O.opens_iso (f := fun x : PFnExactMayChange.S95 => (x.f0, x.f1, x.f2)) (g := fun p => (⟨p.1, p.2.1, p.2.2⟩ : PFnExactMayChange.S95)) (fun _ => rfl) (O.opens_triple (P := Try.prog) (W := W) (t := 95) Try.underlying95 ⟨by kernel_rfl, by kernel_rfl, by kernel_rfl, by kernel_rfl, by kernel_rfl, by kernel_rfl, by kernel_rfl⟩ o3 o3 o3)
  have o95 : O.Opens Try.prog W 95 PFnExactMayChange.k95 _ := o950
  have o51 := O.opens_slice (W := W) (d := PFnExactMayChange.k95) Try.underlying51 (by kernel_rfl) o95
  have o1380 := O.opens_iso (f := fun x : PFnExactMayChange.S138 => (x.f0, x.f1, x.f2)) (g := fun p => (⟨p.1, p.2.1, p.2.2⟩ : PFnExactMayChange.S138)) (fun _ => rfl) (O.opens_triple (P := Try.prog) (W := W) (t := 138) Try.underlying138 ⟨by kernel_rfl, by kernel_rfl, by kernel_rfl, by kernel_rfl, by kernel_rfl, by kernel_rfl, by kernel_rfl⟩ o51 o3 o3)
  have o138 : O.Opens Try.prog W 138 PFnExactMayChange.k138 _ := o1380
  have o121 := O.opens_slice (W := W) (d := PFnExactMayChange.k138) Try.underlying121 (by kernel_rfl) o138
  have o60 := O.opens_slice (W := W) (d := (Kd.slice 138 PFnExactMayChange.k138)) Try.underlying60 (by kernel_rfl) o121
  have o62t := O.opens_pair (P := Try.prog) (W := W) (t := 62) Try.underlying62 ⟨by kernel_rfl, by kernel_rfl, by kernel_rfl, by kernel_rfl, by kernel_rfl⟩ o50t o60
  obtain ⟨cs0, rfl, hz0⟩ := okWide_struct Try.underlying62 (hval 0 62 v0 rfl rfl)
  have k0 := h0
  have lt0 : ∀ x ∈ p0, x.block < W.heap.size := by obtain ⟨m, hm⟩ := k0; exact DataW.trod_lt m _ _ _ hm
  obtain ⟨fuel0, hf0⟩ := h0
  obtain ⟨x0, K0, P0⟩ := o62t H enc true fuel0 _ _ hf0
  obtain ⟨_, _, e0, ⟨_, _, rfl, rfl, ⟨A0_0_1, c0_0_1, rfl, hl0_0_1, hC0_0_1⟩⟩, ⟨A0_1, c0_1, rfl, hl0_1, hC0_1⟩⟩ := K0
  obtain rfl : cs0 = #[.int .i64 x0.1.1, .slice A0_0_1 (x0.1.2).length c0_0_1, .slice A0_1 (x0.2).length c0_1] := by apply Array.ext'; simpa [Value.cells] using e0
  obtain ⟨a1, len1, cap1, rfl⟩ := okWide_slice Try.underlying23 (hval 1 23 v1 rfl rfl)
  have k1 := h1
  have lt1 : ∀ x ∈ p1, x.block < W.heap.size := by obtain ⟨m, hm⟩ := k1; exact DataW.trod_lt m _ _ _ hm
  obtain ⟨fuel1, hf1⟩ := h1
  obtain ⟨x1, K1, P1⟩ := o23 H enc true fuel1 _ _ hf1
  obtain ⟨A1, c1, e1, hl1, hC1⟩ := K1
  simp [Value.cells] at e1
  obtain ⟨rfl, rfl, rfl⟩ := e1
  obtain ⟨a2, rfl, rfl, rfl, w2⟩ := open_int Try.underlying3 (hval 2 3 v2 rfl rfl) h2
  obtain ⟨a3, rfl, rfl, rfl, w3⟩ := open_int Try.underlying3 (hval 3 3 v3 rfl rfl) h3
  obtain ⟨a4, rfl, rfl, rfl, w4⟩ := open_int Try.underlying3 (hval 4 3 v4 rfl rfl) h4
  clear hA0 hval0 hsz0
  obtain ⟨k, h⟩ := Pure.FnExactMayChange (x0.1.1) (x0.1.2) (x0.2) (x1) (a2) (a3) (a4) (P0.1.1) (P0.1.2.1) (P0.1.2.2) (P0.2.1) (P0.2.2) (P1.1) (P1.2) (w2) (w3) (w4)
  refine (PFnExactMayChange.laws_FnExactMayChange.calls k (x0.1.1) _ _ (x0.1.2) _ _ (x0.2) _ _ (x1) (a2) (a3) (a4) true W hC0_0_1 hl0_0_1 hC0_1 hl0_1 hC1 hl1 h).mono fun e W' ⟨he, bel⟩ => ?_
  subst he
  exact ⟨_, rfl, _, _, _, [], _, [], hW', trodAll_mk1 (shut_bool Try.underlying4 _), (trodAll_cons_mk (Below.trod laidOut (by kernel_rfl) (of_decide_eq_true (by kernel_rfl)) k0 bel lt0) (trodAll_cons_mk (Below.trod laidOut (by kernel_rfl) (of_decide_eq_true (by kernel_rfl)) k1 bel lt1) (trodAll_cons_mk (shut_int Try.underlying3 w2) (trodAll_cons_mk (shut_int Try.underlying3 w3) (trodAll_cons_mk (shut_int Try.underlying3 w4) trodAll_mk0))))), rfl, bel.frame _, fun h => by cases h⟩
theorem over : Rows.fnExactMayChangeRow.holds Try.pinned (OpenSpec.ofChange Rows.fnExactMayChangeSpec) :=
  OpenClaim.holds_of_wide 9 Try.f9 rfl rfl rfl rfl rfl rfl rfl ⟨rfl, rfl, rfl, rfl, rfl⟩ rfl rfl rfl rfl rfl (by kernel_rfl) Try.func9 (by kernel_rfl)
    (of_decide_eq_true (by kernel_rfl)) (by unfold Func.isWrapper; first | (rw [if_pos (by decide +kernel)]; kernel_rfl) | (rw [if_neg (by decide +kernel)]; exact ⟨rfl, rfl⟩))
    (fun os started H enc _ => lifted os started H enc)
theorem proved : Rows.FnExactMayChangeSaid := over
#print axioms proved
end Go.Proofs.Ytiiddglmoffonaa.fnExactMayChange
namespace Go.Proofs.Ytiiddglmoffonaa
/-- The row, under a short name, for the claim. -/
theorem fnExactMayChange_holds : Rows.FnExactMayChangeSaid := fnExactMayChange.proved
end Go.Proofs.Ytiiddglmoffonaa

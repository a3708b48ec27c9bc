/- The row of FnExactFixedOf: For every charter and state the program's FixedOf answers as the reference's, and leaves what it is given as it was; what it answers is a list of its own. Condition: none. -/
import Derived.Test.YtcafckapdgaogaaRows
import Derived.Test.YtcafckapdgaogaaCAll73
import Derived.Test.YtcafckapdgaogaaPureFnExactFixedOf
import Derived.Test.YtcafckapdgaogaaO
import Derived.Test.YtcafckapdgaogaaF1
import Derived.Test.YtcafckapdgaogaaF2
import Derived.Test.YtcafckapdgaogaaF3
import Derived.Test.YtcafckapdgaogaaF4
import Derived.WalkKit
import Derived.ProofKit
import Derived.OpenShut
import Derived.ShutString
import Derived.ChangeOld
import Derived.Below
import Derived.SizedLaws
import Derived.ChangeSlices
namespace Go.Proofs.Ytcafckapdgaogaa.fnExactFixedOf
open Go.ChangeShapes Go.WideShapes Go.ChangeAt Go.RowKit Go.Proofs.YtcafckapdgaogaaW.PrintWords
set_option linter.unusedVariables false
set_option linter.unusedSimpArgs false
theorem bt {a b : Bool} (x : a = true) (y : b = true) : (a && b) = true := by rw [x, y]; rfl
theorem own : ownKnob Try.prog.godebug = none := by kernel_rfl
theorem laidOut : laidOutB Try.prog = true := by kernel_rfl
set_option maxRecDepth 100000 in
theorem lifted (os : Os) (started : os.Started) (H : Type) (enc : TypeId × Value → H) :
    ReturnsInHanded {} Try.checked os 11 .any (Rows.fnExactFixedOfSpec.pre6 enc Try.prog Try.f11 Rows.fnExactFixedOfRow.domain false) (Rows.fnExactFixedOfSpec.post enc Try.prog Try.f11 false true false false) := by
  refine returnsInHanded_of_change_sized (C := Try.checked) own started (by kernel_rfl) Try.func11
    (ChangeSpec.witness6 (enc := enc) (C := Try.checked) false ⟨#[], #[.agg #[.int .i64 0, .slice none 0 0, .slice none 0 0], .slice none 0 0], []⟩ 8 (by kernel_rfl) (by kernel_rfl) (by kernel_rfl) (by kernel_rfl)) ?_
  intro W base args ds gs before hval0 hW hcnd hsz0 _
  have hval : ∀ (j : Nat) t v, Try.f11.params[j]? = some t → args[j]? = some v → Value.okWide Try.prog W .any base t v := hval0
  have hW' := hW
  obtain ⟨p, q, hA0, hV, rfl, hfz, hnd⟩ := hW
  have hA : DataW.TrodAll enc Try.prog W 0 (fun _ => true) true Try.f11.params.toList args.toList ds p := hA0
  rw [Try.params11] at hA hval
  obtain ⟨v0, vs0, d0, ds0, p0, q0, hargs, rfl, rfl, h0, r0⟩ := trodAll_cons hA
  obtain ⟨v1, vs1, d1, ds1, p1, q1, rfl, rfl, rfl, h1, r1⟩ := trodAll_cons r0
  obtain ⟨rfl, rfl, rfl⟩ := trodAll_nil r1
  obtain rfl : args = #[v0, v1] := by cases args; simp_all
  obtain ⟨rfl, rfl⟩ := trodVars_none hV
  have o3 := O.opens_int (W := W) (k := .i64) Try.underlying3
  have o22 := O.opens_slice (W := W) (d := (Kd.int .i64)) Try.underlying22 (by kernel_rfl) o3
  have o24t := O.opens_pair (P := Try.prog) (W := W) (t := 24) Try.underlying24 ⟨by kernel_rfl, by kernel_rfl, by kernel_rfl, by kernel_rfl, by kernel_rfl⟩ o3 o22
  have o1600 := O.opens_iso (f := fun x : PAll.S160 => (x.f0, x.f1, x.f2)) (g := fun p => (⟨p.1, p.2.1, p.2.2⟩ : PAll.S160)) (fun _ => rfl) (O.opens_triple (P := Try.prog) (W := W) (t := 160) Try.underlying160 ⟨by kernel_rfl, by kernel_rfl, by kernel_rfl, by kernel_rfl, by kernel_rfl, by kernel_rfl, by kernel_rfl⟩ o3 o3 o3)
  have o160 : O.Opens Try.prog W 160 PAll.k160 _ := o1600
  have o126 := O.opens_slice (W := W) (d := PAll.k160) Try.underlying126 (by kernel_rfl) o160
  have o1280 := O.opens_iso (f := fun x : PAll.S128 => (x.f0, x.f1, x.f2)) (g := fun p => (⟨p.1, p.2.1, p.2.2⟩ : PAll.S128)) (fun _ => rfl) (O.opens_triple (P := Try.prog) (W := W) (t := 128) Try.underlying128 ⟨by kernel_rfl, by kernel_rfl, by kernel_rfl, by kernel_rfl, by kernel_rfl, by kernel_rfl, by kernel_rfl⟩ o126 o3 o3)
  have o128 : O.Opens Try.prog W 128 PAll.k128 _ := o1280
  have o109 := O.opens_slice (W := W) (d := PAll.k128) Try.underlying109 (by kernel_rfl) o128
  have o25 := O.opens_slice (W := W) (d := (Kd.slice 128 PAll.k128)) Try.underlying25 (by kernel_rfl) o109
  have o27t := O.opens_pair (P := Try.prog) (W := W) (t := 27) Try.underlying27 ⟨by kernel_rfl, by kernel_rfl, by kernel_rfl, by kernel_rfl, by kernel_rfl⟩ o24t o25
  obtain ⟨cs0, rfl, hz0⟩ := okWide_struct Try.underlying27 (hval 0 27 v0 rfl rfl)
  have k0 := h0
  have lt0 : ∀ x ∈ p0, x.block < W.heap.size := by obtain ⟨m, hm⟩ := k0; exact DataW.trod_lt m _ _ _ hm
  obtain ⟨fuel0, hf0⟩ := h0
  obtain ⟨x0, K0, P0⟩ := o27t H enc true fuel0 _ _ hf0
  obtain ⟨_, _, e0, ⟨_, _, rfl, rfl, ⟨A0_0_1, c0_0_1, rfl, hl0_0_1, hC0_0_1⟩⟩, ⟨A0_1, c0_1, rfl, hl0_1, hC0_1⟩⟩ := K0
  obtain rfl : cs0 = #[.int .i64 x0.1.1, .slice A0_0_1 (x0.1.2).length c0_0_1, .slice A0_1 (x0.2).length c0_1] := by apply Array.ext'; simpa [Value.cells] using e0
  obtain ⟨a1, len1, cap1, rfl⟩ := okWide_slice Try.underlying22 (hval 1 22 v1 rfl rfl)
  have k1 := h1
  have lt1 : ∀ x ∈ p1, x.block < W.heap.size := by obtain ⟨m, hm⟩ := k1; exact DataW.trod_lt m _ _ _ hm
  obtain ⟨fuel1, hf1⟩ := h1
  obtain ⟨x1, K1, P1⟩ := o22 H enc true fuel1 _ _ hf1
  obtain ⟨A1, c1, e1, hl1, hC1⟩ := K1
  simp [Value.cells] at e1
  obtain ⟨rfl, rfl, rfl⟩ := e1
  clear hA0 hval0 hsz0
  obtain ⟨k, h⟩ := Pure.FnExactFixedOf (x0.1.1) (x0.1.2) (x0.2) (x1) (P0.1.1) (P0.1.2.1) (P0.1.2.2) (P0.2.1) (P0.2.2) (P1.1) (P1.2)
  refine (PAll.laws_FnExactFixedOf.calls k (x0.1.1) _ _ (x0.1.2) _ _ (x0.2) _ _ (x1) true W hC0_0_1 hl0_0_1 hC0_1 hl0_1 hC1 hl1 h).mono fun e W' ⟨he, bel⟩ => ?_
  subst he
  exact ⟨_, rfl, _, _, _, [], _, [], hW', trodAll_mk1 (shut_bool Try.underlying4 _), (trodAll_cons_mk (Below.trod laidOut (by kernel_rfl) (of_decide_eq_true (by kernel_rfl)) k0 bel lt0) (trodAll_cons_mk (Below.trod laidOut (by kernel_rfl) (of_decide_eq_true (by kernel_rfl)) k1 bel lt1) trodAll_mk0)), rfl, bel.frame _, fun h => by cases h⟩
theorem over : Rows.fnExactFixedOfRow.holds Try.pinned (OpenSpec.ofChange Rows.fnExactFixedOfSpec) :=
  OpenClaim.holds_of_wide 11 Try.f11 rfl rfl rfl rfl rfl rfl rfl ⟨rfl, rfl, rfl, rfl, rfl⟩ rfl rfl rfl rfl rfl (by kernel_rfl) Try.func11 (by unfold joinedFacts; exact bt (bt (bt (bt (bt (bt (bt (bt (by kernel_rfl) fact1) fact2) fact3) fact4) (by kernel_rfl)) (by kernel_rfl)) (by kernel_rfl)) (by kernel_rfl))
    (of_decide_eq_true (by kernel_rfl)) (by unfold Func.isWrapper; first | (rw [if_pos (by decide +kernel)]; kernel_rfl) | (rw [if_neg (by decide +kernel)]; exact ⟨rfl, rfl⟩))
    (fun os started H enc _ => lifted os started H enc)
theorem proved : Rows.FnExactFixedOfSaid := over
#print axioms proved
end Go.Proofs.Ytcafckapdgaogaa.fnExactFixedOf
namespace Go.Proofs.Ytcafckapdgaogaa
/-- The row, under a short name, for the claim. -/
theorem fnExactFixedOf_holds : Rows.FnExactFixedOfSaid := fnExactFixedOf.proved
end Go.Proofs.Ytcafckapdgaogaa

/- Walks of functions that All reaches, in the form of the print. -/
-- PRINTED
import Derived.Test.YtcafckapdgaogaaCAll8
namespace Go.Proofs.Ytcafckapdgaogaa.PAll
open Go.RowKit Go.Proofs.YtcafckapdgaogaaW.PrintWords Go.Proofs.YtcafckapdgaogaaW.PrintLast Go.Proofs.YtcafckapdgaogaaW.PrintMore
attribute [local go_sem] max2_int min2_int max_two min_two max_three min_three max_four min_four
set_option linter.unusedVariables false
set_option linter.unusedSimpArgs false

/-! ### spec_AfterActs: function 27 -/
mutual
def spec_AfterActs.j0 : Nat → List Int → List (S53) → Bool → Int → List Int → List (List (S86)) → Option (List Int × Int)
 | 0, _, _, _, _, _, _ => none
 | k + 1, x1, x2, x19, x439000, x439001, x439002 => if x19 = true then (some ((([] : List Int)), (-1))) else ((some (([] : List Int) : List Int)).bind fun y443 => (if y443.length + x1.length < 17592186044416 then (spec_AfterActs.l0 k x2 (y443 ++ x1) 0 0 x439000 x439001 x439002) else (none)))
def spec_AfterActs.l0 : Nat → List (S53) → List Int → Int → Int → Int → List Int → List (List (S86)) → Option (List Int × Int)
 | 0, _, _, _, _, _, _, _ => none
 | k + 1, x2, x8, x9, x10, x439000, x439001, x439002 => if x10 < (x2.length : Int) then (if 0 ≤ x10 then ((spec_MayChange.f k x439000 x439001 x439002 x8 ((rd_T53 x2 x10).f0) ((rd_T53 x2 x10).f1) ((rd_T53 x2 x10).f2)).bind fun t452 => (if t452 = true then (if 0 ≤ ((rd_T53 x2 x10).f0) then (if ((rd_T53 x2 x10).f0) < (x8.length : Int) then (spec_AfterActs.l0 k x2 (x8.set (((rd_T53 x2 x10).f0) : Int).toNat ((rd_T53 x2 x10).f1)) (wrap64 (x9 + 1)) (wrap64 (x10 + 1)) x439000 x439001 x439002) else (none)) else (none)) else (spec_AfterActs.l0 k x2 x8 x9 (wrap64 (x10 + 1)) x439000 x439001 x439002))) else (none)) else (some (x8, x9))
end
def spec_AfterActs.f (k : Nat) (a0_0 : Int) (l0_1 : List Int) (l0_2 : List (List (S86))) (l1 : List Int) (l2 : List (S53)) : Option (List Int × Int) := (spec_StateOk.f k a0_0 l0_1 l0_2 l1).bind fun t439 => (if t439 = true then (spec_AfterActs.j0 k l1 l2 (decide ((l2.length : Int) > 12)) a0_0 l0_1 l0_2) else (spec_AfterActs.j0 k l1 l2 true a0_0 l0_1 l0_2))
end Go.Proofs.Ytcafckapdgaogaa.PAll

/- Walks of functions that All reaches, in the form of the print. -/
-- PRINTED
import Derived.Test.YtcafckapdgaogaaCAll0
import Derived.Test.YtcafckapdgaogaaCAll14
import Derived.Test.YtcafckapdgaogaaCAll17
import Derived.Test.YtcafckapdgaogaaZ
namespace Go.Proofs.Ytcafckapdgaogaa.PAll
open Go.RowKit Go.Proofs.YtcafckapdgaogaaW.PrintWords Go.Proofs.YtcafckapdgaogaaW.PrintLast Go.Proofs.YtcafckapdgaogaaW.PrintMore
attribute [local go_sem] max2_int min2_int max_two min_two max_three min_three max_four min_four
set_option linter.unusedVariables false
set_option linter.unusedSimpArgs false

/-! ### impl_AfterActs: function 28 -/
mutual
def impl_AfterActs.j0 : Nat → List Int → List (S53) → Bool → Int → List Int → List (List (S86)) → Option (List Int × Int)
 | 0, _, _, _, _, _, _ => none
 | k + 1, x1, x2, x20, x457000, x457001, x457002 => if x20 = true then (some (([] : List Int), (-1))) else ((some (([] : List Int) : List Int)).bind fun y458 => (if y458.length + x1.length < 17592186044416 then (impl_AfterActs.l0 k (y458 ++ x1) 0 x2 (x2.length : Int) 0 x457000 x457001 x457002) else (none)))
def impl_AfterActs.l0 : Nat → List Int → Int → List (S53) → Int → Int → Int → List Int → List (List (S86)) → Option (List Int × Int)
 | 0, _, _, _, _, _, _, _, _ => none
 | k + 1, x8, x9, x24, x25, x26, x457000, x457001, x457002 => if x26 < x25 then (if 0 ≤ x26 then (if x26 < (x24.length : Int) then ((impl_mayAct.f k x457000 x457001 x457002 x8 ((rd_T53 x24 x26).f0) ((rd_T53 x24 x26).f1) ((rd_T53 x24 x26).f2)).bind fun t466 => (if t466 = true then (if 0 ≤ ((rd_T53 x24 x26).f0) then (if ((rd_T53 x24 x26).f0) < (x8.length : Int) then (impl_AfterActs.l0 k (x8.set (((rd_T53 x24 x26).f0) : Int).toNat ((rd_T53 x24 x26).f1)) (wrap64 (x9 + 1)) x24 x25 (wrap64 (x26 + 1)) x457000 x457001 x457002) else (none)) else (none)) else (impl_AfterActs.l0 k x8 x9 x24 x25 (wrap64 (x26 + 1)) x457000 x457001 x457002))) else (none)) else (none)) else (some (x8, x9))
end
def impl_AfterActs.f (k : Nat) (a0_0 : Int) (l0_1 : List Int) (l0_2 : List (List (S86))) (l1 : List Int) (l2 : List (S53)) : Option (List Int × Int) := (impl_isState.f k a0_0 l0_1 l0_2 l1).bind fun t457 => (if t457 = true then (impl_AfterActs.j0 k l1 l2 (decide ((l2.length : Int) > 12)) a0_0 l0_1 l0_2) else (impl_AfterActs.j0 k l1 l2 true a0_0 l0_1 l0_2))
/-! ### laws_markIntS: function 30 -/
def laws_markIntS.l0 : Nat → List Int → Int → Int → Option (Int × List Int)
 | 0, _, _, _ => none
 | k + 1, x0, x1, x5 => if x5 < (x0.length : Int) then (if 0 ≤ x5 then (laws_markIntS.l0 k (x0.set (x5 : Int).toNat x1) (wrap64 (x1 + 1)) (wrap64 (x5 + 1))) else (none)) else (some (x1, x0))
def laws_markIntS.f (k : Nat) (l0 : List Int) (a1 : Int) : Option (Int × List Int) := laws_markIntS.l0 k l0 a1 0
/-! ### laws_markHouse: function 70 -/
def laws_markHouse.f (k : Nat) (a0_0 : Int) (l0_1 : List Int) (a1 : Int) : Option (Int × List Int) := (laws_markIntS.f k l0_1 a1).bind fun bt470 => (some (bt470.1, bt470.2))
/-! ### laws_markMarkS: function 129 -/
def laws_markMarkS.l0 : Nat → List (S134) → Int → Int → Option (Int × (List (S134)))
 | 0, _, _, _ => none
 | k + 1, x0, x1, x5 => if x5 < (x0.length : Int) then (if 0 ≤ x5 then ((some (x0.set (x5 : Int).toNat (⟨x1, (rd_T134 x0 x5).f1, (rd_T134 x0 x5).f2⟩ : S134) : List (S134))).bind fun y472 => ((some (y472.set (x5 : Int).toNat (⟨(rd_T134 y472 x5).f0, wrap64 (x1 + 1), (rd_T134 y472 x5).f2⟩ : S134) : List (S134))).bind fun y473 => (laws_markMarkS.l0 k (y473.set (x5 : Int).toNat (⟨(rd_T134 y473 x5).f0, (rd_T134 y473 x5).f1, wrap64 ((wrap64 (x1 + 1)) + 1)⟩ : S134)) (wrap64 ((wrap64 ((wrap64 (x1 + 1)) + 1)) + 1)) (wrap64 (x5 + 1))))) else (none)) else (some (x1, x0))
def laws_markMarkS.f (k : Nat) (l0 : List (S134)) (a1 : Int) : Option (Int × (List (S134))) := laws_markMarkS.l0 k l0 a1 0
-- NOT PRINTED: function 107 (laws_markVariantS)

-- NOT PRINTED: function 71 (laws_markVariantSS)

-- NOT PRINTED: function 29 (laws_markCharter)

/-! ### laws_markActS: function 31 -/
def laws_markActS.l0 : Nat → List (S53) → Int → Int → Option (Int × (List (S53)))
 | 0, _, _, _ => none
 | k + 1, x0, x1, x5 => if x5 < (x0.length : Int) then (if 0 ≤ x5 then ((some (x0.set (x5 : Int).toNat (⟨x1, (rd_T53 x0 x5).f1, (rd_T53 x0 x5).f2⟩ : S53) : List (S53))).bind fun y480 => ((some (y480.set (x5 : Int).toNat (⟨(rd_T53 y480 x5).f0, wrap64 (x1 + 1), (rd_T53 y480 x5).f2⟩ : S53) : List (S53))).bind fun y481 => (laws_markActS.l0 k (y481.set (x5 : Int).toNat (⟨(rd_T53 y481 x5).f0, (rd_T53 y481 x5).f1, wrap64 ((wrap64 (x1 + 1)) + 1)⟩ : S53)) (wrap64 ((wrap64 ((wrap64 (x1 + 1)) + 1)) + 1)) (wrap64 (x5 + 1))))) else (none)) else (some (x1, x0))
def laws_markActS.f (k : Nat) (l0 : List (S53)) (a1 : Int) : Option (Int × (List (S53))) := laws_markActS.l0 k l0 a1 0
/-! ### laws_heldIntS: function 32 -/
def laws_heldIntS.l0 : Nat → List Int → Int → Int → Option (Int)
 | 0, _, _, _ => none
 | k + 1, x0, x1, x5 => if x5 < (x0.length : Int) then (if 0 ≤ x5 then (if (rd x0 x5) = x1 then (laws_heldIntS.l0 k x0 (wrap64 (x1 + 1)) (wrap64 (x5 + 1))) else (some (-1))) else (none)) else (some x1)
def laws_heldIntS.f (k : Nat) (l0 : List Int) (a1 : Int) : Option (Int) := laws_heldIntS.l0 k l0 a1 0
-- NOT PRINTED: function 4 (laws_FnExactAfterActs)

end Go.Proofs.Ytcafckapdgaogaa.PAll

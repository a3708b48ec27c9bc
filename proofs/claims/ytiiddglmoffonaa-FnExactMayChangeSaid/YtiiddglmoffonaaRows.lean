/-
  No cell of these rows narrows 'for every input' (looked for: loops, veiled, ifaces, maps, wideKeys, modest, calm, conditions, laid).
  DERIVED. THE GIVEN ROWS OF THIS SEAT. 12 by the template 'for every input the law returns true; each argument reads behind the call as it read before'; 0 by the template 'total and deterministic' (their statements: YtiiddglmoffonaaTotals.lean).
  GIVEN WITH THE SEED: the statements are not yours to turn. If you find one false, say at which input.
  Laid BY PROGRAM, IN A SANDBOX (cutbox-rows.mjs): the forced cells as the released guide's own fill.sh prints them over the translation 167835f85058d34e… (all of the seat's roots in one cut). By AI agents, Wed Nov 11 2026. No macro, syntax, notation, axiom, sorry.
-/
import Derived.Test.YtiiddglmoffonaaChecked
import GoSem.Claim
import GoSem.ClaimJoined
import GoSem.ClaimMapViews
import Derived.JoinedTies
import Derived.KernelRfl
namespace Go.Proofs.Ytiiddglmoffonaa
/- THE CELL 'sum', in the pinned program and in every row, IS THE sha256 OF THE DUMP (.gsa) THAT YtiiddglmoffonaaProg.lean LOADS. Nothing in Lean hashes anything: it is a label: what it is worth is what the hold of that sum in a sandbox is worth. -/
noncomputable def Try.pinned : Pinned := { name := "ytiiddglmoffonaa", sum := "167835f85058d34ec08db67ac15992aa7216299438e6aadb56c5edda5ac7136b", checked := Try.checked }
namespace Rows
def none {H : Type} : Left H := { results := [], args := [] }

/-- 'laws.FnWeightsOf': WHATEVER THE INPUT: true; the input reads as it did. -/
def fnWeightsOfSpec : ChangeSpec := { name := "fnWeightsOf", fn := fun _ => fun
  | [d] => { results := [.lit (.bool true)], args := [d] }
  | _ => none }
def fnWeightsOfRow : OpenClaim := { program := "ytiiddglmoffonaa", sum := "167835f85058d34ec08db67ac15992aa7216299438e6aadb56c5edda5ac7136b", func := "loop.example/charterrules/laws.FnWeightsOf", spec := "fnWeightsOf", apart := false }
def FnWeightsOfSaid : Prop := fnWeightsOfRow.holds Try.pinned (OpenSpec.ofChange fnWeightsOfSpec)

/-- ITS FALSE NEIGHBOUR: 'it returns false'. Refute it at one input. -/
def fnWeightsOfWrong : ChangeSpec := { name := "fnWeightsOf", fn := fun _ => fun
  | [d] => { results := [.lit (.bool false)], args := [d] }
  | _ => none }
def FnWeightsOfWrongFalsely : Prop := fnWeightsOfRow.holds Try.pinned (OpenSpec.ofChange fnWeightsOfWrong)

/-- 'laws.FnTrustConsent': WHATEVER THE INPUT: true; the input reads as it did. -/
def fnTrustConsentSpec : ChangeSpec := { name := "fnTrustConsent", fn := fun _ => fun
  | [d1, d2] => { results := [.lit (.bool true)], args := [d1, d2] }
  | _ => none }
def fnTrustConsentRow : OpenClaim := { program := "ytiiddglmoffonaa", sum := "167835f85058d34ec08db67ac15992aa7216299438e6aadb56c5edda5ac7136b", func := "loop.example/charterrules/laws.FnTrustConsent", spec := "fnTrustConsent", apart := false }
def FnTrustConsentSaid : Prop := fnTrustConsentRow.holds Try.pinned (OpenSpec.ofChange fnTrustConsentSpec)

/-- ITS FALSE NEIGHBOUR: 'it returns false'. Refute it at one input. -/
def fnTrustConsentWrong : ChangeSpec := { name := "fnTrustConsent", fn := fun _ => fun
  | [d1, d2] => { results := [.lit (.bool false)], args := [d1, d2] }
  | _ => none }
def FnTrustConsentWrongFalsely : Prop := fnTrustConsentRow.holds Try.pinned (OpenSpec.ofChange fnTrustConsentWrong)

/-- 'laws.FnPivotsByOrders': WHATEVER THE INPUT: true; the input reads as it did. -/
def fnPivotsByOrdersSpec : ChangeSpec := { name := "fnPivotsByOrders", fn := fun _ => fun
  | [d] => { results := [.lit (.bool true)], args := [d] }
  | _ => none }
def fnPivotsByOrdersRow : OpenClaim := { program := "ytiiddglmoffonaa", sum := "167835f85058d34ec08db67ac15992aa7216299438e6aadb56c5edda5ac7136b", func := "loop.example/charterrules/laws.FnPivotsByOrders", spec := "fnPivotsByOrders", apart := false }
def FnPivotsByOrdersSaid : Prop := fnPivotsByOrdersRow.holds Try.pinned (OpenSpec.ofChange fnPivotsByOrdersSpec)

/-- ITS FALSE NEIGHBOUR: 'it returns false'. Refute it at one input. -/
def fnPivotsByOrdersWrong : ChangeSpec := { name := "fnPivotsByOrders", fn := fun _ => fun
  | [d] => { results := [.lit (.bool false)], args := [d] }
  | _ => none }
def FnPivotsByOrdersWrongFalsely : Prop := fnPivotsByOrdersRow.holds Try.pinned (OpenSpec.ofChange fnPivotsByOrdersWrong)

/-- 'laws.FnSameMembers': WHATEVER THE INPUT: true; the input reads as it did. -/
def fnSameMembersSpec : ChangeSpec := { name := "fnSameMembers", fn := fun _ => fun
  | [d] => { results := [.lit (.bool true)], args := [d] }
  | _ => none }
def fnSameMembersRow : OpenClaim := { program := "ytiiddglmoffonaa", sum := "167835f85058d34ec08db67ac15992aa7216299438e6aadb56c5edda5ac7136b", func := "loop.example/charterrules/laws.FnSameMembers", spec := "fnSameMembers", apart := false }
def FnSameMembersSaid : Prop := fnSameMembersRow.holds Try.pinned (OpenSpec.ofChange fnSameMembersSpec)

/-- ITS FALSE NEIGHBOUR: 'it returns false'. Refute it at one input. -/
def fnSameMembersWrong : ChangeSpec := { name := "fnSameMembers", fn := fun _ => fun
  | [d] => { results := [.lit (.bool false)], args := [d] }
  | _ => none }
def FnSameMembersWrongFalsely : Prop := fnSameMembersRow.holds Try.pinned (OpenSpec.ofChange fnSameMembersWrong)

/-- 'laws.FnExactStrongerOk': WHATEVER THE INPUT: true; the input reads as it did. -/
def fnExactStrongerOkSpec : ChangeSpec := { name := "fnExactStrongerOk", fn := fun _ => fun
  | [d1, d2, d3, d4] => { results := [.lit (.bool true)], args := [d1, d2, d3, d4] }
  | _ => none }
def fnExactStrongerOkRow : OpenClaim := { program := "ytiiddglmoffonaa", sum := "167835f85058d34ec08db67ac15992aa7216299438e6aadb56c5edda5ac7136b", func := "loop.example/charterrules/laws.FnExactStrongerOk", spec := "fnExactStrongerOk", recurses := true, apart := false }
def FnExactStrongerOkSaid : Prop := fnExactStrongerOkRow.holds Try.pinned (OpenSpec.ofChange fnExactStrongerOkSpec)

/-- ITS FALSE NEIGHBOUR: 'it returns false'. Refute it at one input. -/
def fnExactStrongerOkWrong : ChangeSpec := { name := "fnExactStrongerOk", fn := fun _ => fun
  | [d1, d2, d3, d4] => { results := [.lit (.bool false)], args := [d1, d2, d3, d4] }
  | _ => none }
def FnExactStrongerOkWrongFalsely : Prop := fnExactStrongerOkRow.holds Try.pinned (OpenSpec.ofChange fnExactStrongerOkWrong)

/-- 'laws.FnExactSwingsOf': WHATEVER THE INPUT: true; the input reads as it did. -/
def fnExactSwingsOfSpec : ChangeSpec := { name := "fnExactSwingsOf", fn := fun _ => fun
  | [d1, d2, d3] => { results := [.lit (.bool true)], args := [d1, d2, d3] }
  | _ => none }
def fnExactSwingsOfRow : OpenClaim := { program := "ytiiddglmoffonaa", sum := "167835f85058d34ec08db67ac15992aa7216299438e6aadb56c5edda5ac7136b", func := "loop.example/charterrules/laws.FnExactSwingsOf", spec := "fnExactSwingsOf", recurses := true, apart := false }
def FnExactSwingsOfSaid : Prop := fnExactSwingsOfRow.holds Try.pinned (OpenSpec.ofChange fnExactSwingsOfSpec)

/-- ITS FALSE NEIGHBOUR: 'it returns false'. Refute it at one input. -/
def fnExactSwingsOfWrong : ChangeSpec := { name := "fnExactSwingsOf", fn := fun _ => fun
  | [d1, d2, d3] => { results := [.lit (.bool false)], args := [d1, d2, d3] }
  | _ => none }
def FnExactSwingsOfWrongFalsely : Prop := fnExactSwingsOfRow.holds Try.pinned (OpenSpec.ofChange fnExactSwingsOfWrong)

/-- 'laws.FnExactMayChange': WHATEVER THE INPUT: true; the input reads as it did. -/
def fnExactMayChangeSpec : ChangeSpec := { name := "fnExactMayChange", fn := fun _ => fun
  | [d1, d2, d3, d4, d5] => { results := [.lit (.bool true)], args := [d1, d2, d3, d4, d5] }
  | _ => none }
def fnExactMayChangeRow : OpenClaim := { program := "ytiiddglmoffonaa", sum := "167835f85058d34ec08db67ac15992aa7216299438e6aadb56c5edda5ac7136b", func := "loop.example/charterrules/laws.FnExactMayChange", spec := "fnExactMayChange", recurses := true, apart := false }
def FnExactMayChangeSaid : Prop := fnExactMayChangeRow.holds Try.pinned (OpenSpec.ofChange fnExactMayChangeSpec)

/-- ITS FALSE NEIGHBOUR: 'it returns false'. Refute it at one input. -/
def fnExactMayChangeWrong : ChangeSpec := { name := "fnExactMayChange", fn := fun _ => fun
  | [d1, d2, d3, d4, d5] => { results := [.lit (.bool false)], args := [d1, d2, d3, d4, d5] }
  | _ => none }
def FnExactMayChangeWrongFalsely : Prop := fnExactMayChangeRow.holds Try.pinned (OpenSpec.ofChange fnExactMayChangeWrong)

/-- 'laws.FnFirstVoid': WHATEVER THE INPUT: true; the input reads as it did. -/
def fnFirstVoidSpec : ChangeSpec := { name := "fnFirstVoid", fn := fun _ => fun
  | [d] => { results := [.lit (.bool true)], args := [d] }
  | _ => none }
def fnFirstVoidRow : OpenClaim := { program := "ytiiddglmoffonaa", sum := "167835f85058d34ec08db67ac15992aa7216299438e6aadb56c5edda5ac7136b", func := "loop.example/charterrules/laws.FnFirstVoid", spec := "fnFirstVoid", recurses := true, apart := false }
def FnFirstVoidSaid : Prop := fnFirstVoidRow.holds Try.pinned (OpenSpec.ofChange fnFirstVoidSpec)

/-- ITS FALSE NEIGHBOUR: 'it returns false'. Refute it at one input. -/
def fnFirstVoidWrong : ChangeSpec := { name := "fnFirstVoid", fn := fun _ => fun
  | [d] => { results := [.lit (.bool false)], args := [d] }
  | _ => none }
def FnFirstVoidWrongFalsely : Prop := fnFirstVoidRow.holds Try.pinned (OpenSpec.ofChange fnFirstVoidWrong)

/-- 'laws.FnExactFirstVoid': WHATEVER THE INPUT: true; the input reads as it did. -/
def fnExactFirstVoidSpec : ChangeSpec := { name := "fnExactFirstVoid", fn := fun _ => fun
  | [d1, d2, d3] => { results := [.lit (.bool true)], args := [d1, d2, d3] }
  | _ => none }
def fnExactFirstVoidRow : OpenClaim := { program := "ytiiddglmoffonaa", sum := "167835f85058d34ec08db67ac15992aa7216299438e6aadb56c5edda5ac7136b", func := "loop.example/charterrules/laws.FnExactFirstVoid", spec := "fnExactFirstVoid", recurses := true, apart := false }
def FnExactFirstVoidSaid : Prop := fnExactFirstVoidRow.holds Try.pinned (OpenSpec.ofChange fnExactFirstVoidSpec)

/-- ITS FALSE NEIGHBOUR: 'it returns false'. Refute it at one input. -/
def fnExactFirstVoidWrong : ChangeSpec := { name := "fnExactFirstVoid", fn := fun _ => fun
  | [d1, d2, d3] => { results := [.lit (.bool false)], args := [d1, d2, d3] }
  | _ => none }
def FnExactFirstVoidWrongFalsely : Prop := fnExactFirstVoidRow.holds Try.pinned (OpenSpec.ofChange fnExactFirstVoidWrong)

/-- 'laws.FnValidActs': WHATEVER THE INPUT: true; the input reads as it did. -/
def fnValidActsSpec : ChangeSpec := { name := "fnValidActs", fn := fun _ => fun
  | [d] => { results := [.lit (.bool true)], args := [d] }
  | _ => none }
def fnValidActsRow : OpenClaim := { program := "ytiiddglmoffonaa", sum := "167835f85058d34ec08db67ac15992aa7216299438e6aadb56c5edda5ac7136b", func := "loop.example/charterrules/laws.FnValidActs", spec := "fnValidActs", recurses := true, apart := false }
def FnValidActsSaid : Prop := fnValidActsRow.holds Try.pinned (OpenSpec.ofChange fnValidActsSpec)

/-- ITS FALSE NEIGHBOUR: 'it returns false'. Refute it at one input. -/
def fnValidActsWrong : ChangeSpec := { name := "fnValidActs", fn := fun _ => fun
  | [d] => { results := [.lit (.bool false)], args := [d] }
  | _ => none }
def FnValidActsWrongFalsely : Prop := fnValidActsRow.holds Try.pinned (OpenSpec.ofChange fnValidActsWrong)

/-- 'laws.FnExactAfterActs': WHATEVER THE INPUT: true; the input reads as it did. -/
def fnExactAfterActsSpec : ChangeSpec := { name := "fnExactAfterActs", fn := fun _ => fun
  | [d1, d2, d3] => { results := [.lit (.bool true)], args := [d1, d2, d3] }
  | _ => none }
def fnExactAfterActsRow : OpenClaim := { program := "ytiiddglmoffonaa", sum := "167835f85058d34ec08db67ac15992aa7216299438e6aadb56c5edda5ac7136b", func := "loop.example/charterrules/laws.FnExactAfterActs", spec := "fnExactAfterActs", recurses := true, apart := false }
def FnExactAfterActsSaid : Prop := fnExactAfterActsRow.holds Try.pinned (OpenSpec.ofChange fnExactAfterActsSpec)

/-- ITS FALSE NEIGHBOUR: 'it returns false'. Refute it at one input. -/
def fnExactAfterActsWrong : ChangeSpec := { name := "fnExactAfterActs", fn := fun _ => fun
  | [d1, d2, d3] => { results := [.lit (.bool false)], args := [d1, d2, d3] }
  | _ => none }
def FnExactAfterActsWrongFalsely : Prop := fnExactAfterActsRow.holds Try.pinned (OpenSpec.ofChange fnExactAfterActsWrong)

/-- 'laws.FnExactValidActs': WHATEVER THE INPUT: true; the input reads as it did. -/
def fnExactValidActsSpec : ChangeSpec := { name := "fnExactValidActs", fn := fun _ => fun
  | [d1, d2, d3] => { results := [.lit (.bool true)], args := [d1, d2, d3] }
  | _ => none }
def fnExactValidActsRow : OpenClaim := { program := "ytiiddglmoffonaa", sum := "167835f85058d34ec08db67ac15992aa7216299438e6aadb56c5edda5ac7136b", func := "loop.example/charterrules/laws.FnExactValidActs", spec := "fnExactValidActs", recurses := true, apart := false }
def FnExactValidActsSaid : Prop := fnExactValidActsRow.holds Try.pinned (OpenSpec.ofChange fnExactValidActsSpec)

/-- ITS FALSE NEIGHBOUR: 'it returns false'. Refute it at one input. -/
def fnExactValidActsWrong : ChangeSpec := { name := "fnExactValidActs", fn := fun _ => fun
  | [d1, d2, d3] => { results := [.lit (.bool false)], args := [d1, d2, d3] }
  | _ => none }
def FnExactValidActsWrongFalsely : Prop := fnExactValidActsRow.holds Try.pinned (OpenSpec.ofChange fnExactValidActsWrong)

/- THE SECOND FORM. 'bulk': how many values and letters a reading holds, each counted each time it is reached (what is shared counts as often as it is met; a slice's spare places count too). A statement '..UptoSaid' is the law's where the arguments, and the package variables that the reading takes, are together of bulk at most 1048576: NARROWER than '..Said'. Prove '..Said' where nothing that the law and all that it calls make is longer than what came in: it says more and counts as full. Else prove '..UptoSaid'. A law counts once. -/
mutual
def uptoBulk {H : Type} : DataW H → Nat
  | .lit (.string bytes) => bytes.length + 1
  | .lit _ => 1
  | .nil => 1
  | .ptr d => uptoBulk d + 1
  | .slice elems spare => uptoBulkAll elems + uptoBulkAll spare + 1
  | .agg parts => uptoBulkAll parts + 1
  | .iface _ d => uptoBulk d + 1
  | .map entries => uptoBulkEntries entries + 1
  | .held _ => 1
def uptoBulkAll {H : Type} : List (DataW H) → Nat
  | [] => 0
  | d :: r => uptoBulk d + uptoBulkAll r
def uptoBulkEntries {H : Type} : List (Lit × DataW H) → Nat
  | [] => 0
  | x :: r => uptoBulkEntry x + uptoBulkEntries r
def uptoBulkEntry {H : Type} : Lit × DataW H → Nat
  | (.string bytes, d) => bytes.length + uptoBulk d + 1
  | (_, d) => uptoBulk d + 1
 end
def uptoSmall : (H : Type) → List (DataW H) → Bool := fun _ ds => decide (uptoBulkAll ds ≤ 1048576)
def OpenSpec.upto (s : _root_.Go.ChangeSpec) : _root_.Go.OpenSpec := { _root_.Go.OpenSpec.ofChange s with cond := some uptoSmall }

/-- 'laws.FnWeightsOf', WHERE WHAT IT READS IS OF BULK AT MOST 1048576: true; the input reads as it did. -/
def fnWeightsOfUptoRow : OpenClaim := { program := "ytiiddglmoffonaa", sum := "167835f85058d34ec08db67ac15992aa7216299438e6aadb56c5edda5ac7136b", func := "loop.example/charterrules/laws.FnWeightsOf", spec := "fnWeightsOf", apart := false, narrowed := true }
def FnWeightsOfUptoSaid : Prop := fnWeightsOfUptoRow.holds Try.pinned (OpenSpec.upto fnWeightsOfSpec)

/-- 'laws.FnTrustConsent', WHERE WHAT IT READS IS OF BULK AT MOST 1048576: true; the input reads as it did. -/
def fnTrustConsentUptoRow : OpenClaim := { program := "ytiiddglmoffonaa", sum := "167835f85058d34ec08db67ac15992aa7216299438e6aadb56c5edda5ac7136b", func := "loop.example/charterrules/laws.FnTrustConsent", spec := "fnTrustConsent", apart := false, narrowed := true }
def FnTrustConsentUptoSaid : Prop := fnTrustConsentUptoRow.holds Try.pinned (OpenSpec.upto fnTrustConsentSpec)

/-- 'laws.FnPivotsByOrders', WHERE WHAT IT READS IS OF BULK AT MOST 1048576: true; the input reads as it did. -/
def fnPivotsByOrdersUptoRow : OpenClaim := { program := "ytiiddglmoffonaa", sum := "167835f85058d34ec08db67ac15992aa7216299438e6aadb56c5edda5ac7136b", func := "loop.example/charterrules/laws.FnPivotsByOrders", spec := "fnPivotsByOrders", apart := false, narrowed := true }
def FnPivotsByOrdersUptoSaid : Prop := fnPivotsByOrdersUptoRow.holds Try.pinned (OpenSpec.upto fnPivotsByOrdersSpec)

/-- 'laws.FnSameMembers', WHERE WHAT IT READS IS OF BULK AT MOST 1048576: true; the input reads as it did. -/
def fnSameMembersUptoRow : OpenClaim := { program := "ytiiddglmoffonaa", sum := "167835f85058d34ec08db67ac15992aa7216299438e6aadb56c5edda5ac7136b", func := "loop.example/charterrules/laws.FnSameMembers", spec := "fnSameMembers", apart := false, narrowed := true }
def FnSameMembersUptoSaid : Prop := fnSameMembersUptoRow.holds Try.pinned (OpenSpec.upto fnSameMembersSpec)

/-- 'laws.FnExactStrongerOk', WHERE WHAT IT READS IS OF BULK AT MOST 1048576: true; the input reads as it did. -/
def fnExactStrongerOkUptoRow : OpenClaim := { program := "ytiiddglmoffonaa", sum := "167835f85058d34ec08db67ac15992aa7216299438e6aadb56c5edda5ac7136b", func := "loop.example/charterrules/laws.FnExactStrongerOk", spec := "fnExactStrongerOk", recurses := true, apart := false, narrowed := true }
def FnExactStrongerOkUptoSaid : Prop := fnExactStrongerOkUptoRow.holds Try.pinned (OpenSpec.upto fnExactStrongerOkSpec)

/-- 'laws.FnExactSwingsOf', WHERE WHAT IT READS IS OF BULK AT MOST 1048576: true; the input reads as it did. -/
def fnExactSwingsOfUptoRow : OpenClaim := { program := "ytiiddglmoffonaa", sum := "167835f85058d34ec08db67ac15992aa7216299438e6aadb56c5edda5ac7136b", func := "loop.example/charterrules/laws.FnExactSwingsOf", spec := "fnExactSwingsOf", recurses := true, apart := false, narrowed := true }
def FnExactSwingsOfUptoSaid : Prop := fnExactSwingsOfUptoRow.holds Try.pinned (OpenSpec.upto fnExactSwingsOfSpec)

/-- 'laws.FnExactMayChange', WHERE WHAT IT READS IS OF BULK AT MOST 1048576: true; the input reads as it did. -/
def fnExactMayChangeUptoRow : OpenClaim := { program := "ytiiddglmoffonaa", sum := "167835f85058d34ec08db67ac15992aa7216299438e6aadb56c5edda5ac7136b", func := "loop.example/charterrules/laws.FnExactMayChange", spec := "fnExactMayChange", recurses := true, apart := false, narrowed := true }
def FnExactMayChangeUptoSaid : Prop := fnExactMayChangeUptoRow.holds Try.pinned (OpenSpec.upto fnExactMayChangeSpec)

/-- 'laws.FnFirstVoid', WHERE WHAT IT READS IS OF BULK AT MOST 1048576: true; the input reads as it did. -/
def fnFirstVoidUptoRow : OpenClaim := { program := "ytiiddglmoffonaa", sum := "167835f85058d34ec08db67ac15992aa7216299438e6aadb56c5edda5ac7136b", func := "loop.example/charterrules/laws.FnFirstVoid", spec := "fnFirstVoid", recurses := true, apart := false, narrowed := true }
def FnFirstVoidUptoSaid : Prop := fnFirstVoidUptoRow.holds Try.pinned (OpenSpec.upto fnFirstVoidSpec)

/-- 'laws.FnExactFirstVoid', WHERE WHAT IT READS IS OF BULK AT MOST 1048576: true; the input reads as it did. -/
def fnExactFirstVoidUptoRow : OpenClaim := { program := "ytiiddglmoffonaa", sum := "167835f85058d34ec08db67ac15992aa7216299438e6aadb56c5edda5ac7136b", func := "loop.example/charterrules/laws.FnExactFirstVoid", spec := "fnExactFirstVoid", recurses := true, apart := false, narrowed := true }
def FnExactFirstVoidUptoSaid : Prop := fnExactFirstVoidUptoRow.holds Try.pinned (OpenSpec.upto fnExactFirstVoidSpec)

/-- 'laws.FnValidActs', WHERE WHAT IT READS IS OF BULK AT MOST 1048576: true; the input reads as it did. -/
def fnValidActsUptoRow : OpenClaim := { program := "ytiiddglmoffonaa", sum := "167835f85058d34ec08db67ac15992aa7216299438e6aadb56c5edda5ac7136b", func := "loop.example/charterrules/laws.FnValidActs", spec := "fnValidActs", recurses := true, apart := false, narrowed := true }
def FnValidActsUptoSaid : Prop := fnValidActsUptoRow.holds Try.pinned (OpenSpec.upto fnValidActsSpec)

/-- 'laws.FnExactAfterActs', WHERE WHAT IT READS IS OF BULK AT MOST 1048576: true; the input reads as it did. -/
def fnExactAfterActsUptoRow : OpenClaim := { program := "ytiiddglmoffonaa", sum := "167835f85058d34ec08db67ac15992aa7216299438e6aadb56c5edda5ac7136b", func := "loop.example/charterrules/laws.FnExactAfterActs", spec := "fnExactAfterActs", recurses := true, apart := false, narrowed := true }
def FnExactAfterActsUptoSaid : Prop := fnExactAfterActsUptoRow.holds Try.pinned (OpenSpec.upto fnExactAfterActsSpec)

/-- 'laws.FnExactValidActs', WHERE WHAT IT READS IS OF BULK AT MOST 1048576: true; the input reads as it did. -/
def fnExactValidActsUptoRow : OpenClaim := { program := "ytiiddglmoffonaa", sum := "167835f85058d34ec08db67ac15992aa7216299438e6aadb56c5edda5ac7136b", func := "loop.example/charterrules/laws.FnExactValidActs", spec := "fnExactValidActs", recurses := true, apart := false, narrowed := true }
def FnExactValidActsUptoSaid : Prop := fnExactValidActsUptoRow.holds Try.pinned (OpenSpec.upto fnExactValidActsSpec)

end Rows
end Go.Proofs.Ytiiddglmoffonaa

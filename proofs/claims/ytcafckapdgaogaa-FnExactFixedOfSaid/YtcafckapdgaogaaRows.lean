/-
  No cell of these rows narrows 'for every input' (looked for: loops, veiled, ifaces, maps, wideKeys, modest, calm, conditions, laid).
  DERIVED. THE GIVEN ROWS OF THIS SEAT. 14 by the template 'for every input the law returns true; each argument reads behind the call as it read before'; 0 by the template 'total and deterministic' (their statements: YtcafckapdgaogaaTotals.lean).
  GIVEN WITH THE SEED: the statements are not yours to turn. If you find one false, say at which input.
  Laid BY PROGRAM, IN A SANDBOX (cutbox-rows.mjs): the forced cells as the released guide's own fill.sh prints them over the translation decc81634e3ec107… (all of the seat's roots in one cut). By AI agents, Wed Nov 11 2026. No macro, syntax, notation, axiom, sorry.
-/
import Derived.Test.YtcafckapdgaogaaChecked
import GoSem.Claim
import GoSem.ClaimJoined
import GoSem.ClaimMapViews
import Derived.JoinedTies
import Derived.KernelRfl
namespace Go.Proofs.Ytcafckapdgaogaa
/- THE CELL 'sum', in the pinned program and in every row, IS THE sha256 OF THE DUMP (.gsa) THAT YtcafckapdgaogaaProg.lean LOADS. Nothing in Lean hashes anything: it is a label: what it is worth is what the hold of that sum in a sandbox is worth. -/
noncomputable def Try.pinned : Pinned := { name := "ytcafckapdgaogaa", sum := "decc81634e3ec107d87a1957ab8978053869cd4fc11a286c3b95f1d286fc2d77", checked := Try.checked }
namespace Rows
def none {H : Type} : Left H := { results := [], args := [] }

/-- 'laws.FnExactFirstVoid': WHATEVER THE INPUT: true; the input reads as it did. -/
def fnExactFirstVoidSpec : ChangeSpec := { name := "fnExactFirstVoid", fn := fun _ => fun
  | [d1, d2, d3] => { results := [.lit (.bool true)], args := [d1, d2, d3] }
  | _ => none }
def fnExactFirstVoidRow : OpenClaim := { program := "ytcafckapdgaogaa", sum := "decc81634e3ec107d87a1957ab8978053869cd4fc11a286c3b95f1d286fc2d77", func := "loop.example/charterrules/laws.FnExactFirstVoid", spec := "fnExactFirstVoid", recurses := true, apart := false }
def FnExactFirstVoidSaid : Prop := fnExactFirstVoidRow.holds Try.pinned (OpenSpec.ofChange fnExactFirstVoidSpec)

/-- ITS FALSE NEIGHBOUR: 'it returns false'. Refute it at one input. -/
def fnExactFirstVoidWrong : ChangeSpec := { name := "fnExactFirstVoid", fn := fun _ => fun
  | [d1, d2, d3] => { results := [.lit (.bool false)], args := [d1, d2, d3] }
  | _ => none }
def FnExactFirstVoidWrongFalsely : Prop := fnExactFirstVoidRow.holds Try.pinned (OpenSpec.ofChange fnExactFirstVoidWrong)

/-- 'laws.FnExactAfterActs': WHATEVER THE INPUT: true; the input reads as it did. -/
def fnExactAfterActsSpec : ChangeSpec := { name := "fnExactAfterActs", fn := fun _ => fun
  | [d1, d2, d3] => { results := [.lit (.bool true)], args := [d1, d2, d3] }
  | _ => none }
def fnExactAfterActsRow : OpenClaim := { program := "ytcafckapdgaogaa", sum := "decc81634e3ec107d87a1957ab8978053869cd4fc11a286c3b95f1d286fc2d77", func := "loop.example/charterrules/laws.FnExactAfterActs", spec := "fnExactAfterActs", recurses := true, apart := false }
def FnExactAfterActsSaid : Prop := fnExactAfterActsRow.holds Try.pinned (OpenSpec.ofChange fnExactAfterActsSpec)

/-- ITS FALSE NEIGHBOUR: 'it returns false'. Refute it at one input. -/
def fnExactAfterActsWrong : ChangeSpec := { name := "fnExactAfterActs", fn := fun _ => fun
  | [d1, d2, d3] => { results := [.lit (.bool false)], args := [d1, d2, d3] }
  | _ => none }
def FnExactAfterActsWrongFalsely : Prop := fnExactAfterActsRow.holds Try.pinned (OpenSpec.ofChange fnExactAfterActsWrong)

/-- 'laws.FnExactValidActs': WHATEVER THE INPUT: true; the input reads as it did. -/
def fnExactValidActsSpec : ChangeSpec := { name := "fnExactValidActs", fn := fun _ => fun
  | [d1, d2, d3] => { results := [.lit (.bool true)], args := [d1, d2, d3] }
  | _ => none }
def fnExactValidActsRow : OpenClaim := { program := "ytcafckapdgaogaa", sum := "decc81634e3ec107d87a1957ab8978053869cd4fc11a286c3b95f1d286fc2d77", func := "loop.example/charterrules/laws.FnExactValidActs", spec := "fnExactValidActs", recurses := true, apart := false }
def FnExactValidActsSaid : Prop := fnExactValidActsRow.holds Try.pinned (OpenSpec.ofChange fnExactValidActsSpec)

/-- ITS FALSE NEIGHBOUR: 'it returns false'. Refute it at one input. -/
def fnExactValidActsWrong : ChangeSpec := { name := "fnExactValidActs", fn := fun _ => fun
  | [d1, d2, d3] => { results := [.lit (.bool false)], args := [d1, d2, d3] }
  | _ => none }
def FnExactValidActsWrongFalsely : Prop := fnExactValidActsRow.holds Try.pinned (OpenSpec.ofChange fnExactValidActsWrong)

/-- 'laws.FnExactApartOk': WHATEVER THE INPUT: true; the input reads as it did. -/
def fnExactApartOkSpec : ChangeSpec := { name := "fnExactApartOk", fn := fun _ => fun
  | [d1, d2, d3] => { results := [.lit (.bool true)], args := [d1, d2, d3] }
  | _ => none }
def fnExactApartOkRow : OpenClaim := { program := "ytcafckapdgaogaa", sum := "decc81634e3ec107d87a1957ab8978053869cd4fc11a286c3b95f1d286fc2d77", func := "loop.example/charterrules/laws.FnExactApartOk", spec := "fnExactApartOk", unfollowed := true, recurses := true, apart := false }
def FnExactApartOkSaid : Prop := fnExactApartOkRow.holds Try.pinned (OpenSpec.ofChange fnExactApartOkSpec)

/-- ITS FALSE NEIGHBOUR: 'it returns false'. Refute it at one input. -/
def fnExactApartOkWrong : ChangeSpec := { name := "fnExactApartOk", fn := fun _ => fun
  | [d1, d2, d3] => { results := [.lit (.bool false)], args := [d1, d2, d3] }
  | _ => none }
def FnExactApartOkWrongFalsely : Prop := fnExactApartOkRow.holds Try.pinned (OpenSpec.ofChange fnExactApartOkWrong)

/-- 'laws.FnExactEitherOrder': WHATEVER THE INPUT: true; the input reads as it did. -/
def fnExactEitherOrderSpec : ChangeSpec := { name := "fnExactEitherOrder", fn := fun _ => fun
  | [d1, d2, d3, d4] => { results := [.lit (.bool true)], args := [d1, d2, d3, d4] }
  | _ => none }
def fnExactEitherOrderRow : OpenClaim := { program := "ytcafckapdgaogaa", sum := "decc81634e3ec107d87a1957ab8978053869cd4fc11a286c3b95f1d286fc2d77", func := "loop.example/charterrules/laws.FnExactEitherOrder", spec := "fnExactEitherOrder", recurses := true, apart := false }
def FnExactEitherOrderSaid : Prop := fnExactEitherOrderRow.holds Try.pinned (OpenSpec.ofChange fnExactEitherOrderSpec)

/-- ITS FALSE NEIGHBOUR: 'it returns false'. Refute it at one input. -/
def fnExactEitherOrderWrong : ChangeSpec := { name := "fnExactEitherOrder", fn := fun _ => fun
  | [d1, d2, d3, d4] => { results := [.lit (.bool false)], args := [d1, d2, d3, d4] }
  | _ => none }
def FnExactEitherOrderWrongFalsely : Prop := fnExactEitherOrderRow.holds Try.pinned (OpenSpec.ofChange fnExactEitherOrderWrong)

/-- 'laws.FnExactSafeActs': WHATEVER THE INPUT: true; the input reads as it did. -/
def fnExactSafeActsSpec : ChangeSpec := { name := "fnExactSafeActs", fn := fun _ => fun
  | [d1, d2, d3, d4] => { results := [.lit (.bool true)], args := [d1, d2, d3, d4] }
  | _ => none }
def fnExactSafeActsRow : OpenClaim := { program := "ytcafckapdgaogaa", sum := "decc81634e3ec107d87a1957ab8978053869cd4fc11a286c3b95f1d286fc2d77", func := "loop.example/charterrules/laws.FnExactSafeActs", spec := "fnExactSafeActs", unfollowed := true, recurses := true, apart := false }
def FnExactSafeActsSaid : Prop := fnExactSafeActsRow.holds Try.pinned (OpenSpec.ofChange fnExactSafeActsSpec)

/-- ITS FALSE NEIGHBOUR: 'it returns false'. Refute it at one input. -/
def fnExactSafeActsWrong : ChangeSpec := { name := "fnExactSafeActs", fn := fun _ => fun
  | [d1, d2, d3, d4] => { results := [.lit (.bool false)], args := [d1, d2, d3, d4] }
  | _ => none }
def FnExactSafeActsWrongFalsely : Prop := fnExactSafeActsRow.holds Try.pinned (OpenSpec.ofChange fnExactSafeActsWrong)

/-- 'laws.FnExactChangesTo': WHATEVER THE INPUT: true; the input reads as it did. -/
def fnExactChangesToSpec : ChangeSpec := { name := "fnExactChangesTo", fn := fun _ => fun
  | [d1, d2, d3, d4] => { results := [.lit (.bool true)], args := [d1, d2, d3, d4] }
  | _ => none }
def fnExactChangesToRow : OpenClaim := { program := "ytcafckapdgaogaa", sum := "decc81634e3ec107d87a1957ab8978053869cd4fc11a286c3b95f1d286fc2d77", func := "loop.example/charterrules/laws.FnExactChangesTo", spec := "fnExactChangesTo", recurses := true, apart := false }
def FnExactChangesToSaid : Prop := fnExactChangesToRow.holds Try.pinned (OpenSpec.ofChange fnExactChangesToSpec)

/-- ITS FALSE NEIGHBOUR: 'it returns false'. Refute it at one input. -/
def fnExactChangesToWrong : ChangeSpec := { name := "fnExactChangesTo", fn := fun _ => fun
  | [d1, d2, d3, d4] => { results := [.lit (.bool false)], args := [d1, d2, d3, d4] }
  | _ => none }
def FnExactChangesToWrongFalsely : Prop := fnExactChangesToRow.holds Try.pinned (OpenSpec.ofChange fnExactChangesToWrong)

/-- 'laws.FnExactReachOf': WHATEVER THE INPUT: true; the input reads as it did. -/
def fnExactReachOfSpec : ChangeSpec := { name := "fnExactReachOf", fn := fun _ => fun
  | [d1, d2, d3] => { results := [.lit (.bool true)], args := [d1, d2, d3] }
  | _ => none }
def fnExactReachOfRow : OpenClaim := { program := "ytcafckapdgaogaa", sum := "decc81634e3ec107d87a1957ab8978053869cd4fc11a286c3b95f1d286fc2d77", func := "loop.example/charterrules/laws.FnExactReachOf", spec := "fnExactReachOf", unfollowed := true, recurses := true, apart := false }
def FnExactReachOfSaid : Prop := fnExactReachOfRow.holds Try.pinned (OpenSpec.ofChange fnExactReachOfSpec)

/-- ITS FALSE NEIGHBOUR: 'it returns false'. Refute it at one input. -/
def fnExactReachOfWrong : ChangeSpec := { name := "fnExactReachOf", fn := fun _ => fun
  | [d1, d2, d3] => { results := [.lit (.bool false)], args := [d1, d2, d3] }
  | _ => none }
def FnExactReachOfWrongFalsely : Prop := fnExactReachOfRow.holds Try.pinned (OpenSpec.ofChange fnExactReachOfWrong)

/-- 'laws.FnExactFixedOf': WHATEVER THE INPUT: true; the input reads as it did. -/
def fnExactFixedOfSpec : ChangeSpec := { name := "fnExactFixedOf", fn := fun _ => fun
  | [d1, d2] => { results := [.lit (.bool true)], args := [d1, d2] }
  | _ => none }
def fnExactFixedOfRow : OpenClaim := { program := "ytcafckapdgaogaa", sum := "decc81634e3ec107d87a1957ab8978053869cd4fc11a286c3b95f1d286fc2d77", func := "loop.example/charterrules/laws.FnExactFixedOf", spec := "fnExactFixedOf", recurses := true, apart := false }
def FnExactFixedOfSaid : Prop := fnExactFixedOfRow.holds Try.pinned (OpenSpec.ofChange fnExactFixedOfSpec)

/-- ITS FALSE NEIGHBOUR: 'it returns false'. Refute it at one input. -/
def fnExactFixedOfWrong : ChangeSpec := { name := "fnExactFixedOf", fn := fun _ => fun
  | [d1, d2] => { results := [.lit (.bool false)], args := [d1, d2] }
  | _ => none }
def FnExactFixedOfWrongFalsely : Prop := fnExactFixedOfRow.holds Try.pinned (OpenSpec.ofChange fnExactFixedOfWrong)

/-- 'laws.FnExactSafeFor': WHATEVER THE INPUT: true; the input reads as it did. -/
def fnExactSafeForSpec : ChangeSpec := { name := "fnExactSafeFor", fn := fun _ => fun
  | [d1, d2, d3, d4] => { results := [.lit (.bool true)], args := [d1, d2, d3, d4] }
  | _ => none }
def fnExactSafeForRow : OpenClaim := { program := "ytcafckapdgaogaa", sum := "decc81634e3ec107d87a1957ab8978053869cd4fc11a286c3b95f1d286fc2d77", func := "loop.example/charterrules/laws.FnExactSafeFor", spec := "fnExactSafeFor", unfollowed := true, recurses := true, apart := false }
def FnExactSafeForSaid : Prop := fnExactSafeForRow.holds Try.pinned (OpenSpec.ofChange fnExactSafeForSpec)

/-- ITS FALSE NEIGHBOUR: 'it returns false'. Refute it at one input. -/
def fnExactSafeForWrong : ChangeSpec := { name := "fnExactSafeFor", fn := fun _ => fun
  | [d1, d2, d3, d4] => { results := [.lit (.bool false)], args := [d1, d2, d3, d4] }
  | _ => none }
def FnExactSafeForWrongFalsely : Prop := fnExactSafeForRow.holds Try.pinned (OpenSpec.ofChange fnExactSafeForWrong)

/-- 'laws.FnExactNeverOf': WHATEVER THE INPUT: true; the input reads as it did. -/
def fnExactNeverOfSpec : ChangeSpec := { name := "fnExactNeverOf", fn := fun _ => fun
  | [d1, d2] => { results := [.lit (.bool true)], args := [d1, d2] }
  | _ => none }
def fnExactNeverOfRow : OpenClaim := { program := "ytcafckapdgaogaa", sum := "decc81634e3ec107d87a1957ab8978053869cd4fc11a286c3b95f1d286fc2d77", func := "loop.example/charterrules/laws.FnExactNeverOf", spec := "fnExactNeverOf", recurses := true, apart := false }
def FnExactNeverOfSaid : Prop := fnExactNeverOfRow.holds Try.pinned (OpenSpec.ofChange fnExactNeverOfSpec)

/-- ITS FALSE NEIGHBOUR: 'it returns false'. Refute it at one input. -/
def fnExactNeverOfWrong : ChangeSpec := { name := "fnExactNeverOf", fn := fun _ => fun
  | [d1, d2] => { results := [.lit (.bool false)], args := [d1, d2] }
  | _ => none }
def FnExactNeverOfWrongFalsely : Prop := fnExactNeverOfRow.holds Try.pinned (OpenSpec.ofChange fnExactNeverOfWrong)

/-- 'laws.FnExactAmendersOf': WHATEVER THE INPUT: true; the input reads as it did. -/
def fnExactAmendersOfSpec : ChangeSpec := { name := "fnExactAmendersOf", fn := fun _ => fun
  | [d1, d2, d3] => { results := [.lit (.bool true)], args := [d1, d2, d3] }
  | _ => none }
def fnExactAmendersOfRow : OpenClaim := { program := "ytcafckapdgaogaa", sum := "decc81634e3ec107d87a1957ab8978053869cd4fc11a286c3b95f1d286fc2d77", func := "loop.example/charterrules/laws.FnExactAmendersOf", spec := "fnExactAmendersOf", unfollowed := true, recurses := true, apart := false }
def FnExactAmendersOfSaid : Prop := fnExactAmendersOfRow.holds Try.pinned (OpenSpec.ofChange fnExactAmendersOfSpec)

/-- ITS FALSE NEIGHBOUR: 'it returns false'. Refute it at one input. -/
def fnExactAmendersOfWrong : ChangeSpec := { name := "fnExactAmendersOf", fn := fun _ => fun
  | [d1, d2, d3] => { results := [.lit (.bool false)], args := [d1, d2, d3] }
  | _ => none }
def FnExactAmendersOfWrongFalsely : Prop := fnExactAmendersOfRow.holds Try.pinned (OpenSpec.ofChange fnExactAmendersOfWrong)

/-- 'laws.FnExactBreakersOf': WHATEVER THE INPUT: true; the input reads as it did. -/
def fnExactBreakersOfSpec : ChangeSpec := { name := "fnExactBreakersOf", fn := fun _ => fun
  | [d1, d2, d3] => { results := [.lit (.bool true)], args := [d1, d2, d3] }
  | _ => none }
def fnExactBreakersOfRow : OpenClaim := { program := "ytcafckapdgaogaa", sum := "decc81634e3ec107d87a1957ab8978053869cd4fc11a286c3b95f1d286fc2d77", func := "loop.example/charterrules/laws.FnExactBreakersOf", spec := "fnExactBreakersOf", unfollowed := true, recurses := true, apart := false }
def FnExactBreakersOfSaid : Prop := fnExactBreakersOfRow.holds Try.pinned (OpenSpec.ofChange fnExactBreakersOfSpec)

/-- ITS FALSE NEIGHBOUR: 'it returns false'. Refute it at one input. -/
def fnExactBreakersOfWrong : ChangeSpec := { name := "fnExactBreakersOf", fn := fun _ => fun
  | [d1, d2, d3] => { results := [.lit (.bool false)], args := [d1, d2, d3] }
  | _ => none }
def FnExactBreakersOfWrongFalsely : Prop := fnExactBreakersOfRow.holds Try.pinned (OpenSpec.ofChange fnExactBreakersOfWrong)

/-- 'laws.FnExactGuardsOf': WHATEVER THE INPUT: true; the input reads as it did. -/
def fnExactGuardsOfSpec : ChangeSpec := { name := "fnExactGuardsOf", fn := fun _ => fun
  | [d1, d2, d3] => { results := [.lit (.bool true)], args := [d1, d2, d3] }
  | _ => none }
def fnExactGuardsOfRow : OpenClaim := { program := "ytcafckapdgaogaa", sum := "decc81634e3ec107d87a1957ab8978053869cd4fc11a286c3b95f1d286fc2d77", func := "loop.example/charterrules/laws.FnExactGuardsOf", spec := "fnExactGuardsOf", unfollowed := true, recurses := true, apart := false }
def FnExactGuardsOfSaid : Prop := fnExactGuardsOfRow.holds Try.pinned (OpenSpec.ofChange fnExactGuardsOfSpec)

/-- ITS FALSE NEIGHBOUR: 'it returns false'. Refute it at one input. -/
def fnExactGuardsOfWrong : ChangeSpec := { name := "fnExactGuardsOf", fn := fun _ => fun
  | [d1, d2, d3] => { results := [.lit (.bool false)], args := [d1, d2, d3] }
  | _ => none }
def FnExactGuardsOfWrongFalsely : Prop := fnExactGuardsOfRow.holds Try.pinned (OpenSpec.ofChange fnExactGuardsOfWrong)

/- THE SECOND FORM. 'bulk': how many values and letters a reading holds, each counted each time it is reached (what is shared counts as often as it is met; a slice's spare places count too). A statement '..UptoSaid' is the law's where the arguments, and the package variables that the reading takes, are together of bulk at most 1048576: NARROWER than '..Said'. Prove '..Said' where nothing that the law and all that it calls make is longer than what came in: it says more and counts as full. Else prove '..UptoSaid'. A law counts once. -/
mutual
def uptoBulk {H : Type} : DataW H → Nat
  | .lit (.string bytes) => bytes.length + 1
  | .lit _ => 1
  | .nil => 1
  | .ptr d => uptoBulk d + 1
  | .slice elems spare => uptoBulkAll elems + uptoBulkAll spare + 1
  | .agg parts => uptoBulkAll parts + 1
  | .iface _ d => uptoBulk d + 1
  | .map entries => uptoBulkEntries entries + 1
  | .held _ => 1
def uptoBulkAll {H : Type} : List (DataW H) → Nat
  | [] => 0
  | d :: r => uptoBulk d + uptoBulkAll r
def uptoBulkEntries {H : Type} : List (Lit × DataW H) → Nat
  | [] => 0
  | x :: r => uptoBulkEntry x + uptoBulkEntries r
def uptoBulkEntry {H : Type} : Lit × DataW H → Nat
  | (.string bytes, d) => bytes.length + uptoBulk d + 1
  | (_, d) => uptoBulk d + 1
 end
def uptoSmall : (H : Type) → List (DataW H) → Bool := fun _ ds => decide (uptoBulkAll ds ≤ 1048576)
def OpenSpec.upto (s : _root_.Go.ChangeSpec) : _root_.Go.OpenSpec := { _root_.Go.OpenSpec.ofChange s with cond := some uptoSmall }

/-- 'laws.FnExactFirstVoid', WHERE WHAT IT READS IS OF BULK AT MOST 1048576: true; the input reads as it did. -/
def fnExactFirstVoidUptoRow : OpenClaim := { program := "ytcafckapdgaogaa", sum := "decc81634e3ec107d87a1957ab8978053869cd4fc11a286c3b95f1d286fc2d77", func := "loop.example/charterrules/laws.FnExactFirstVoid", spec := "fnExactFirstVoid", recurses := true, apart := false, narrowed := true }
def FnExactFirstVoidUptoSaid : Prop := fnExactFirstVoidUptoRow.holds Try.pinned (OpenSpec.upto fnExactFirstVoidSpec)

/-- 'laws.FnExactAfterActs', WHERE WHAT IT READS IS OF BULK AT MOST 1048576: true; the input reads as it did. -/
def fnExactAfterActsUptoRow : OpenClaim := { program := "ytcafckapdgaogaa", sum := "decc81634e3ec107d87a1957ab8978053869cd4fc11a286c3b95f1d286fc2d77", func := "loop.example/charterrules/laws.FnExactAfterActs", spec := "fnExactAfterActs", recurses := true, apart := false, narrowed := true }
def FnExactAfterActsUptoSaid : Prop := fnExactAfterActsUptoRow.holds Try.pinned (OpenSpec.upto fnExactAfterActsSpec)

/-- 'laws.FnExactValidActs', WHERE WHAT IT READS IS OF BULK AT MOST 1048576: true; the input reads as it did. -/
def fnExactValidActsUptoRow : OpenClaim := { program := "ytcafckapdgaogaa", sum := "decc81634e3ec107d87a1957ab8978053869cd4fc11a286c3b95f1d286fc2d77", func := "loop.example/charterrules/laws.FnExactValidActs", spec := "fnExactValidActs", recurses := true, apart := false, narrowed := true }
def FnExactValidActsUptoSaid : Prop := fnExactValidActsUptoRow.holds Try.pinned (OpenSpec.upto fnExactValidActsSpec)

/-- 'laws.FnExactApartOk', WHERE WHAT IT READS IS OF BULK AT MOST 1048576: true; the input reads as it did. -/
def fnExactApartOkUptoRow : OpenClaim := { program := "ytcafckapdgaogaa", sum := "decc81634e3ec107d87a1957ab8978053869cd4fc11a286c3b95f1d286fc2d77", func := "loop.example/charterrules/laws.FnExactApartOk", spec := "fnExactApartOk", unfollowed := true, recurses := true, apart := false, narrowed := true }
def FnExactApartOkUptoSaid : Prop := fnExactApartOkUptoRow.holds Try.pinned (OpenSpec.upto fnExactApartOkSpec)

/-- 'laws.FnExactEitherOrder', WHERE WHAT IT READS IS OF BULK AT MOST 1048576: true; the input reads as it did. -/
def fnExactEitherOrderUptoRow : OpenClaim := { program := "ytcafckapdgaogaa", sum := "decc81634e3ec107d87a1957ab8978053869cd4fc11a286c3b95f1d286fc2d77", func := "loop.example/charterrules/laws.FnExactEitherOrder", spec := "fnExactEitherOrder", recurses := true, apart := false, narrowed := true }
def FnExactEitherOrderUptoSaid : Prop := fnExactEitherOrderUptoRow.holds Try.pinned (OpenSpec.upto fnExactEitherOrderSpec)

/-- 'laws.FnExactSafeActs', WHERE WHAT IT READS IS OF BULK AT MOST 1048576: true; the input reads as it did. -/
def fnExactSafeActsUptoRow : OpenClaim := { program := "ytcafckapdgaogaa", sum := "decc81634e3ec107d87a1957ab8978053869cd4fc11a286c3b95f1d286fc2d77", func := "loop.example/charterrules/laws.FnExactSafeActs", spec := "fnExactSafeActs", unfollowed := true, recurses := true, apart := false, narrowed := true }
def FnExactSafeActsUptoSaid : Prop := fnExactSafeActsUptoRow.holds Try.pinned (OpenSpec.upto fnExactSafeActsSpec)

/-- 'laws.FnExactChangesTo', WHERE WHAT IT READS IS OF BULK AT MOST 1048576: true; the input reads as it did. -/
def fnExactChangesToUptoRow : OpenClaim := { program := "ytcafckapdgaogaa", sum := "decc81634e3ec107d87a1957ab8978053869cd4fc11a286c3b95f1d286fc2d77", func := "loop.example/charterrules/laws.FnExactChangesTo", spec := "fnExactChangesTo", recurses := true, apart := false, narrowed := true }
def FnExactChangesToUptoSaid : Prop := fnExactChangesToUptoRow.holds Try.pinned (OpenSpec.upto fnExactChangesToSpec)

/-- 'laws.FnExactReachOf', WHERE WHAT IT READS IS OF BULK AT MOST 1048576: true; the input reads as it did. -/
def fnExactReachOfUptoRow : OpenClaim := { program := "ytcafckapdgaogaa", sum := "decc81634e3ec107d87a1957ab8978053869cd4fc11a286c3b95f1d286fc2d77", func := "loop.example/charterrules/laws.FnExactReachOf", spec := "fnExactReachOf", unfollowed := true, recurses := true, apart := false, narrowed := true }
def FnExactReachOfUptoSaid : Prop := fnExactReachOfUptoRow.holds Try.pinned (OpenSpec.upto fnExactReachOfSpec)

/-- 'laws.FnExactFixedOf', WHERE WHAT IT READS IS OF BULK AT MOST 1048576: true; the input reads as it did. -/
def fnExactFixedOfUptoRow : OpenClaim := { program := "ytcafckapdgaogaa", sum := "decc81634e3ec107d87a1957ab8978053869cd4fc11a286c3b95f1d286fc2d77", func := "loop.example/charterrules/laws.FnExactFixedOf", spec := "fnExactFixedOf", recurses := true, apart := false, narrowed := true }
def FnExactFixedOfUptoSaid : Prop := fnExactFixedOfUptoRow.holds Try.pinned (OpenSpec.upto fnExactFixedOfSpec)

/-- 'laws.FnExactSafeFor', WHERE WHAT IT READS IS OF BULK AT MOST 1048576: true; the input reads as it did. -/
def fnExactSafeForUptoRow : OpenClaim := { program := "ytcafckapdgaogaa", sum := "decc81634e3ec107d87a1957ab8978053869cd4fc11a286c3b95f1d286fc2d77", func := "loop.example/charterrules/laws.FnExactSafeFor", spec := "fnExactSafeFor", unfollowed := true, recurses := true, apart := false, narrowed := true }
def FnExactSafeForUptoSaid : Prop := fnExactSafeForUptoRow.holds Try.pinned (OpenSpec.upto fnExactSafeForSpec)

/-- 'laws.FnExactNeverOf', WHERE WHAT IT READS IS OF BULK AT MOST 1048576: true; the input reads as it did. -/
def fnExactNeverOfUptoRow : OpenClaim := { program := "ytcafckapdgaogaa", sum := "decc81634e3ec107d87a1957ab8978053869cd4fc11a286c3b95f1d286fc2d77", func := "loop.example/charterrules/laws.FnExactNeverOf", spec := "fnExactNeverOf", recurses := true, apart := false, narrowed := true }
def FnExactNeverOfUptoSaid : Prop := fnExactNeverOfUptoRow.holds Try.pinned (OpenSpec.upto fnExactNeverOfSpec)

/-- 'laws.FnExactAmendersOf', WHERE WHAT IT READS IS OF BULK AT MOST 1048576: true; the input reads as it did. -/
def fnExactAmendersOfUptoRow : OpenClaim := { program := "ytcafckapdgaogaa", sum := "decc81634e3ec107d87a1957ab8978053869cd4fc11a286c3b95f1d286fc2d77", func := "loop.example/charterrules/laws.FnExactAmendersOf", spec := "fnExactAmendersOf", unfollowed := true, recurses := true, apart := false, narrowed := true }
def FnExactAmendersOfUptoSaid : Prop := fnExactAmendersOfUptoRow.holds Try.pinned (OpenSpec.upto fnExactAmendersOfSpec)

/-- 'laws.FnExactBreakersOf', WHERE WHAT IT READS IS OF BULK AT MOST 1048576: true; the input reads as it did. -/
def fnExactBreakersOfUptoRow : OpenClaim := { program := "ytcafckapdgaogaa", sum := "decc81634e3ec107d87a1957ab8978053869cd4fc11a286c3b95f1d286fc2d77", func := "loop.example/charterrules/laws.FnExactBreakersOf", spec := "fnExactBreakersOf", unfollowed := true, recurses := true, apart := false, narrowed := true }
def FnExactBreakersOfUptoSaid : Prop := fnExactBreakersOfUptoRow.holds Try.pinned (OpenSpec.upto fnExactBreakersOfSpec)

/-- 'laws.FnExactGuardsOf', WHERE WHAT IT READS IS OF BULK AT MOST 1048576: true; the input reads as it did. -/
def fnExactGuardsOfUptoRow : OpenClaim := { program := "ytcafckapdgaogaa", sum := "decc81634e3ec107d87a1957ab8978053869cd4fc11a286c3b95f1d286fc2d77", func := "loop.example/charterrules/laws.FnExactGuardsOf", spec := "fnExactGuardsOf", unfollowed := true, recurses := true, apart := false, narrowed := true }
def FnExactGuardsOfUptoSaid : Prop := fnExactGuardsOfUptoRow.holds Try.pinned (OpenSpec.upto fnExactGuardsOfSpec)

end Rows
end Go.Proofs.Ytcafckapdgaogaa

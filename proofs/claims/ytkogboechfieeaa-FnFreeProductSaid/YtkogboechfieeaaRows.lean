/-
  No cell of these rows narrows 'for every input' (looked for: loops, veiled, ifaces, maps, wideKeys, modest, calm, conditions, laid).
  DERIVED. THE GIVEN ROWS OF THIS SEAT. 12 by the template 'for every input the law returns true; each argument reads behind the call as it read before'; 0 by the template 'total and deterministic' (their statements: YtkogboechfieeaaTotals.lean).
  GIVEN WITH THE SEED: the statements are not yours to turn. If you find one false, say at which input.
  Laid BY PROGRAM, IN A SANDBOX (cutbox-rows.mjs): the forced cells as the released guide's own fill.sh prints them over the translation f99a4bff78b6293c… (all of the seat's roots in one cut). By AI agents, Wed Nov 11 2026. No macro, syntax, notation, axiom, sorry.
-/
import Derived.Test.YtkogboechfieeaaChecked
import GoSem.Claim
import GoSem.ClaimJoined
import GoSem.ClaimMapViews
import Derived.JoinedTies
import Derived.KernelRfl
namespace Go.Proofs.Ytkogboechfieeaa
/- THE CELL 'sum', in the pinned program and in every row, IS THE sha256 OF THE DUMP (.gsa) THAT YtkogboechfieeaaProg.lean LOADS. Nothing in Lean hashes anything: it is a label: what it is worth is what the hold of that sum in a sandbox is worth. -/
noncomputable def Try.pinned : Pinned := { name := "ytkogboechfieeaa", sum := "f99a4bff78b6293c7ce6918d977bd591ad928ec3aa13d5aab9a78cd0e484bfb7", checked := Try.checked }
namespace Rows
def none {H : Type} : Left H := { results := [], args := [] }

/-- 'laws.FnFreeProduct': WHATEVER THE INPUT: true; the input reads as it did. -/
def fnFreeProductSpec : ChangeSpec := { name := "fnFreeProduct", fn := fun _ => fun
  | [d] => { results := [.lit (.bool true)], args := [d] }
  | _ => none }
def fnFreeProductRow : OpenClaim := { program := "ytkogboechfieeaa", sum := "f99a4bff78b6293c7ce6918d977bd591ad928ec3aa13d5aab9a78cd0e484bfb7", func := "loop.example/charterrules/laws.FnFreeProduct", spec := "fnFreeProduct", unfollowed := true, recurses := true, apart := false }
def FnFreeProductSaid : Prop := fnFreeProductRow.holds Try.pinned (OpenSpec.ofChange fnFreeProductSpec)

/-- ITS FALSE NEIGHBOUR: 'it returns false'. Refute it at one input. -/
def fnFreeProductWrong : ChangeSpec := { name := "fnFreeProduct", fn := fun _ => fun
  | [d] => { results := [.lit (.bool false)], args := [d] }
  | _ => none }
def FnFreeProductWrongFalsely : Prop := fnFreeProductRow.holds Try.pinned (OpenSpec.ofChange fnFreeProductWrong)

/-- 'laws.FnBadMore': WHATEVER THE INPUT: true; the input reads as it did. -/
def fnBadMoreSpec : ChangeSpec := { name := "fnBadMore", fn := fun _ => fun
  | [d] => { results := [.lit (.bool true)], args := [d] }
  | _ => none }
def fnBadMoreRow : OpenClaim := { program := "ytkogboechfieeaa", sum := "f99a4bff78b6293c7ce6918d977bd591ad928ec3aa13d5aab9a78cd0e484bfb7", func := "loop.example/charterrules/laws.FnBadMore", spec := "fnBadMore", unfollowed := true, recurses := true, apart := false }
def FnBadMoreSaid : Prop := fnBadMoreRow.holds Try.pinned (OpenSpec.ofChange fnBadMoreSpec)

/-- ITS FALSE NEIGHBOUR: 'it returns false'. Refute it at one input. -/
def fnBadMoreWrong : ChangeSpec := { name := "fnBadMore", fn := fun _ => fun
  | [d] => { results := [.lit (.bool false)], args := [d] }
  | _ => none }
def FnBadMoreWrongFalsely : Prop := fnBadMoreRow.holds Try.pinned (OpenSpec.ofChange fnBadMoreWrong)

/-- 'laws.FnMayChange': WHATEVER THE INPUT: true; the input reads as it did. -/
def fnMayChangeSpec : ChangeSpec := { name := "fnMayChange", fn := fun _ => fun
  | [d] => { results := [.lit (.bool true)], args := [d] }
  | _ => none }
def fnMayChangeRow : OpenClaim := { program := "ytkogboechfieeaa", sum := "f99a4bff78b6293c7ce6918d977bd591ad928ec3aa13d5aab9a78cd0e484bfb7", func := "loop.example/charterrules/laws.FnMayChange", spec := "fnMayChange", unfollowed := true, recurses := true, apart := false }
def FnMayChangeSaid : Prop := fnMayChangeRow.holds Try.pinned (OpenSpec.ofChange fnMayChangeSpec)

/-- ITS FALSE NEIGHBOUR: 'it returns false'. Refute it at one input. -/
def fnMayChangeWrong : ChangeSpec := { name := "fnMayChange", fn := fun _ => fun
  | [d] => { results := [.lit (.bool false)], args := [d] }
  | _ => none }
def FnMayChangeWrongFalsely : Prop := fnMayChangeRow.holds Try.pinned (OpenSpec.ofChange fnMayChangeWrong)

/-- 'laws.FnAfterActs': WHATEVER THE INPUT: true; the input reads as it did. -/
def fnAfterActsSpec : ChangeSpec := { name := "fnAfterActs", fn := fun _ => fun
  | [d] => { results := [.lit (.bool true)], args := [d] }
  | _ => none }
def fnAfterActsRow : OpenClaim := { program := "ytkogboechfieeaa", sum := "f99a4bff78b6293c7ce6918d977bd591ad928ec3aa13d5aab9a78cd0e484bfb7", func := "loop.example/charterrules/laws.FnAfterActs", spec := "fnAfterActs", unfollowed := true, recurses := true, apart := false }
def FnAfterActsSaid : Prop := fnAfterActsRow.holds Try.pinned (OpenSpec.ofChange fnAfterActsSpec)

/-- ITS FALSE NEIGHBOUR: 'it returns false'. Refute it at one input. -/
def fnAfterActsWrong : ChangeSpec := { name := "fnAfterActs", fn := fun _ => fun
  | [d] => { results := [.lit (.bool false)], args := [d] }
  | _ => none }
def FnAfterActsWrongFalsely : Prop := fnAfterActsRow.holds Try.pinned (OpenSpec.ofChange fnAfterActsWrong)

/-- 'laws.FnReachOf': WHATEVER THE INPUT: true; the input reads as it did. -/
def fnReachOfSpec : ChangeSpec := { name := "fnReachOf", fn := fun _ => fun
  | [d] => { results := [.lit (.bool true)], args := [d] }
  | _ => none }
def fnReachOfRow : OpenClaim := { program := "ytkogboechfieeaa", sum := "f99a4bff78b6293c7ce6918d977bd591ad928ec3aa13d5aab9a78cd0e484bfb7", func := "loop.example/charterrules/laws.FnReachOf", spec := "fnReachOf", unfollowed := true, recurses := true, apart := false }
def FnReachOfSaid : Prop := fnReachOfRow.holds Try.pinned (OpenSpec.ofChange fnReachOfSpec)

/-- ITS FALSE NEIGHBOUR: 'it returns false'. Refute it at one input. -/
def fnReachOfWrong : ChangeSpec := { name := "fnReachOf", fn := fun _ => fun
  | [d] => { results := [.lit (.bool false)], args := [d] }
  | _ => none }
def FnReachOfWrongFalsely : Prop := fnReachOfRow.holds Try.pinned (OpenSpec.ofChange fnReachOfWrong)

/-- 'laws.FnChangesTo': WHATEVER THE INPUT: true; the input reads as it did. -/
def fnChangesToSpec : ChangeSpec := { name := "fnChangesTo", fn := fun _ => fun
  | [d1, d2] => { results := [.lit (.bool true)], args := [d1, d2] }
  | _ => none }
def fnChangesToRow : OpenClaim := { program := "ytkogboechfieeaa", sum := "f99a4bff78b6293c7ce6918d977bd591ad928ec3aa13d5aab9a78cd0e484bfb7", func := "loop.example/charterrules/laws.FnChangesTo", spec := "fnChangesTo", unfollowed := true, recurses := true, apart := false }
def FnChangesToSaid : Prop := fnChangesToRow.holds Try.pinned (OpenSpec.ofChange fnChangesToSpec)

/-- ITS FALSE NEIGHBOUR: 'it returns false'. Refute it at one input. -/
def fnChangesToWrong : ChangeSpec := { name := "fnChangesTo", fn := fun _ => fun
  | [d1, d2] => { results := [.lit (.bool false)], args := [d1, d2] }
  | _ => none }
def FnChangesToWrongFalsely : Prop := fnChangesToRow.holds Try.pinned (OpenSpec.ofChange fnChangesToWrong)

/-- 'laws.FnSafeFor': WHATEVER THE INPUT: true; the input reads as it did. -/
def fnSafeForSpec : ChangeSpec := { name := "fnSafeFor", fn := fun _ => fun
  | [d] => { results := [.lit (.bool true)], args := [d] }
  | _ => none }
def fnSafeForRow : OpenClaim := { program := "ytkogboechfieeaa", sum := "f99a4bff78b6293c7ce6918d977bd591ad928ec3aa13d5aab9a78cd0e484bfb7", func := "loop.example/charterrules/laws.FnSafeFor", spec := "fnSafeFor", unfollowed := true, recurses := true, apart := false }
def FnSafeForSaid : Prop := fnSafeForRow.holds Try.pinned (OpenSpec.ofChange fnSafeForSpec)

/-- ITS FALSE NEIGHBOUR: 'it returns false'. Refute it at one input. -/
def fnSafeForWrong : ChangeSpec := { name := "fnSafeFor", fn := fun _ => fun
  | [d] => { results := [.lit (.bool false)], args := [d] }
  | _ => none }
def FnSafeForWrongFalsely : Prop := fnSafeForRow.holds Try.pinned (OpenSpec.ofChange fnSafeForWrong)

/-- 'laws.FnFixedOf': WHATEVER THE INPUT: true; the input reads as it did. -/
def fnFixedOfSpec : ChangeSpec := { name := "fnFixedOf", fn := fun _ => fun
  | [d] => { results := [.lit (.bool true)], args := [d] }
  | _ => none }
def fnFixedOfRow : OpenClaim := { program := "ytkogboechfieeaa", sum := "f99a4bff78b6293c7ce6918d977bd591ad928ec3aa13d5aab9a78cd0e484bfb7", func := "loop.example/charterrules/laws.FnFixedOf", spec := "fnFixedOf", unfollowed := true, recurses := true, apart := false }
def FnFixedOfSaid : Prop := fnFixedOfRow.holds Try.pinned (OpenSpec.ofChange fnFixedOfSpec)

/-- ITS FALSE NEIGHBOUR: 'it returns false'. Refute it at one input. -/
def fnFixedOfWrong : ChangeSpec := { name := "fnFixedOf", fn := fun _ => fun
  | [d] => { results := [.lit (.bool false)], args := [d] }
  | _ => none }
def FnFixedOfWrongFalsely : Prop := fnFixedOfRow.holds Try.pinned (OpenSpec.ofChange fnFixedOfWrong)

/-- 'laws.FnAmendersOf': WHATEVER THE INPUT: true; the input reads as it did. -/
def fnAmendersOfSpec : ChangeSpec := { name := "fnAmendersOf", fn := fun _ => fun
  | [d] => { results := [.lit (.bool true)], args := [d] }
  | _ => none }
def fnAmendersOfRow : OpenClaim := { program := "ytkogboechfieeaa", sum := "f99a4bff78b6293c7ce6918d977bd591ad928ec3aa13d5aab9a78cd0e484bfb7", func := "loop.example/charterrules/laws.FnAmendersOf", spec := "fnAmendersOf", unfollowed := true, recurses := true, apart := false }
def FnAmendersOfSaid : Prop := fnAmendersOfRow.holds Try.pinned (OpenSpec.ofChange fnAmendersOfSpec)

/-- ITS FALSE NEIGHBOUR: 'it returns false'. Refute it at one input. -/
def fnAmendersOfWrong : ChangeSpec := { name := "fnAmendersOf", fn := fun _ => fun
  | [d] => { results := [.lit (.bool false)], args := [d] }
  | _ => none }
def FnAmendersOfWrongFalsely : Prop := fnAmendersOfRow.holds Try.pinned (OpenSpec.ofChange fnAmendersOfWrong)

/-- 'laws.FnBreakersOf': WHATEVER THE INPUT: true; the input reads as it did. -/
def fnBreakersOfSpec : ChangeSpec := { name := "fnBreakersOf", fn := fun _ => fun
  | [d] => { results := [.lit (.bool true)], args := [d] }
  | _ => none }
def fnBreakersOfRow : OpenClaim := { program := "ytkogboechfieeaa", sum := "f99a4bff78b6293c7ce6918d977bd591ad928ec3aa13d5aab9a78cd0e484bfb7", func := "loop.example/charterrules/laws.FnBreakersOf", spec := "fnBreakersOf", unfollowed := true, recurses := true, apart := false }
def FnBreakersOfSaid : Prop := fnBreakersOfRow.holds Try.pinned (OpenSpec.ofChange fnBreakersOfSpec)

/-- ITS FALSE NEIGHBOUR: 'it returns false'. Refute it at one input. -/
def fnBreakersOfWrong : ChangeSpec := { name := "fnBreakersOf", fn := fun _ => fun
  | [d] => { results := [.lit (.bool false)], args := [d] }
  | _ => none }
def FnBreakersOfWrongFalsely : Prop := fnBreakersOfRow.holds Try.pinned (OpenSpec.ofChange fnBreakersOfWrong)

/-- 'laws.FnGuardsOf': WHATEVER THE INPUT: true; the input reads as it did. -/
def fnGuardsOfSpec : ChangeSpec := { name := "fnGuardsOf", fn := fun _ => fun
  | [d] => { results := [.lit (.bool true)], args := [d] }
  | _ => none }
def fnGuardsOfRow : OpenClaim := { program := "ytkogboechfieeaa", sum := "f99a4bff78b6293c7ce6918d977bd591ad928ec3aa13d5aab9a78cd0e484bfb7", func := "loop.example/charterrules/laws.FnGuardsOf", spec := "fnGuardsOf", unfollowed := true, recurses := true, apart := false }
def FnGuardsOfSaid : Prop := fnGuardsOfRow.holds Try.pinned (OpenSpec.ofChange fnGuardsOfSpec)

/-- ITS FALSE NEIGHBOUR: 'it returns false'. Refute it at one input. -/
def fnGuardsOfWrong : ChangeSpec := { name := "fnGuardsOf", fn := fun _ => fun
  | [d] => { results := [.lit (.bool false)], args := [d] }
  | _ => none }
def FnGuardsOfWrongFalsely : Prop := fnGuardsOfRow.holds Try.pinned (OpenSpec.ofChange fnGuardsOfWrong)

/-- 'laws.FnNeverOf': WHATEVER THE INPUT: true; the input reads as it did. -/
def fnNeverOfSpec : ChangeSpec := { name := "fnNeverOf", fn := fun _ => fun
  | [d] => { results := [.lit (.bool true)], args := [d] }
  | _ => none }
def fnNeverOfRow : OpenClaim := { program := "ytkogboechfieeaa", sum := "f99a4bff78b6293c7ce6918d977bd591ad928ec3aa13d5aab9a78cd0e484bfb7", func := "loop.example/charterrules/laws.FnNeverOf", spec := "fnNeverOf", unfollowed := true, recurses := true, apart := false }
def FnNeverOfSaid : Prop := fnNeverOfRow.holds Try.pinned (OpenSpec.ofChange fnNeverOfSpec)

/-- ITS FALSE NEIGHBOUR: 'it returns false'. Refute it at one input. -/
def fnNeverOfWrong : ChangeSpec := { name := "fnNeverOf", fn := fun _ => fun
  | [d] => { results := [.lit (.bool false)], args := [d] }
  | _ => none }
def FnNeverOfWrongFalsely : Prop := fnNeverOfRow.holds Try.pinned (OpenSpec.ofChange fnNeverOfWrong)

/- THE SECOND FORM. 'bulk': how many values and letters a reading holds, each counted each time it is reached (what is shared counts as often as it is met; a slice's spare places count too). A statement '..UptoSaid' is the law's where the arguments, and the package variables that the reading takes, are together of bulk at most 1048576: NARROWER than '..Said'. Prove '..Said' where nothing that the law and all that it calls make is longer than what came in: it says more and counts as full. Else prove '..UptoSaid'. A law counts once. -/
mutual
def uptoBulk {H : Type} : DataW H → Nat
  | .lit (.string bytes) => bytes.length + 1
  | .lit _ => 1
  | .nil => 1
  | .ptr d => uptoBulk d + 1
  | .slice elems spare => uptoBulkAll elems + uptoBulkAll spare + 1
  | .agg parts => uptoBulkAll parts + 1
  | .iface _ d => uptoBulk d + 1
  | .map entries => uptoBulkEntries entries + 1
  | .held _ => 1
def uptoBulkAll {H : Type} : List (DataW H) → Nat
  | [] => 0
  | d :: r => uptoBulk d + uptoBulkAll r
def uptoBulkEntries {H : Type} : List (Lit × DataW H) → Nat
  | [] => 0
  | x :: r => uptoBulkEntry x + uptoBulkEntries r
def uptoBulkEntry {H : Type} : Lit × DataW H → Nat
  | (.string bytes, d) => bytes.length + uptoBulk d + 1
  | (_, d) => uptoBulk d + 1
 end
def uptoSmall : (H : Type) → List (DataW H) → Bool := fun _ ds => decide (uptoBulkAll ds ≤ 1048576)
def OpenSpec.upto (s : _root_.Go.ChangeSpec) : _root_.Go.OpenSpec := { _root_.Go.OpenSpec.ofChange s with cond := some uptoSmall }

/-- 'laws.FnFreeProduct', WHERE WHAT IT READS IS OF BULK AT MOST 1048576: true; the input reads as it did. -/
def fnFreeProductUptoRow : OpenClaim := { program := "ytkogboechfieeaa", sum := "f99a4bff78b6293c7ce6918d977bd591ad928ec3aa13d5aab9a78cd0e484bfb7", func := "loop.example/charterrules/laws.FnFreeProduct", spec := "fnFreeProduct", unfollowed := true, recurses := true, apart := false, narrowed := true }
def FnFreeProductUptoSaid : Prop := fnFreeProductUptoRow.holds Try.pinned (OpenSpec.upto fnFreeProductSpec)

/-- 'laws.FnBadMore', WHERE WHAT IT READS IS OF BULK AT MOST 1048576: true; the input reads as it did. -/
def fnBadMoreUptoRow : OpenClaim := { program := "ytkogboechfieeaa", sum := "f99a4bff78b6293c7ce6918d977bd591ad928ec3aa13d5aab9a78cd0e484bfb7", func := "loop.example/charterrules/laws.FnBadMore", spec := "fnBadMore", unfollowed := true, recurses := true, apart := false, narrowed := true }
def FnBadMoreUptoSaid : Prop := fnBadMoreUptoRow.holds Try.pinned (OpenSpec.upto fnBadMoreSpec)

/-- 'laws.FnMayChange', WHERE WHAT IT READS IS OF BULK AT MOST 1048576: true; the input reads as it did. -/
def fnMayChangeUptoRow : OpenClaim := { program := "ytkogboechfieeaa", sum := "f99a4bff78b6293c7ce6918d977bd591ad928ec3aa13d5aab9a78cd0e484bfb7", func := "loop.example/charterrules/laws.FnMayChange", spec := "fnMayChange", unfollowed := true, recurses := true, apart := false, narrowed := true }
def FnMayChangeUptoSaid : Prop := fnMayChangeUptoRow.holds Try.pinned (OpenSpec.upto fnMayChangeSpec)

/-- 'laws.FnAfterActs', WHERE WHAT IT READS IS OF BULK AT MOST 1048576: true; the input reads as it did. -/
def fnAfterActsUptoRow : OpenClaim := { program := "ytkogboechfieeaa", sum := "f99a4bff78b6293c7ce6918d977bd591ad928ec3aa13d5aab9a78cd0e484bfb7", func := "loop.example/charterrules/laws.FnAfterActs", spec := "fnAfterActs", unfollowed := true, recurses := true, apart := false, narrowed := true }
def FnAfterActsUptoSaid : Prop := fnAfterActsUptoRow.holds Try.pinned (OpenSpec.upto fnAfterActsSpec)

/-- 'laws.FnReachOf', WHERE WHAT IT READS IS OF BULK AT MOST 1048576: true; the input reads as it did. -/
def fnReachOfUptoRow : OpenClaim := { program := "ytkogboechfieeaa", sum := "f99a4bff78b6293c7ce6918d977bd591ad928ec3aa13d5aab9a78cd0e484bfb7", func := "loop.example/charterrules/laws.FnReachOf", spec := "fnReachOf", unfollowed := true, recurses := true, apart := false, narrowed := true }
def FnReachOfUptoSaid : Prop := fnReachOfUptoRow.holds Try.pinned (OpenSpec.upto fnReachOfSpec)

/-- 'laws.FnChangesTo', WHERE WHAT IT READS IS OF BULK AT MOST 1048576: true; the input reads as it did. -/
def fnChangesToUptoRow : OpenClaim := { program := "ytkogboechfieeaa", sum := "f99a4bff78b6293c7ce6918d977bd591ad928ec3aa13d5aab9a78cd0e484bfb7", func := "loop.example/charterrules/laws.FnChangesTo", spec := "fnChangesTo", unfollowed := true, recurses := true, apart := false, narrowed := true }
def FnChangesToUptoSaid : Prop := fnChangesToUptoRow.holds Try.pinned (OpenSpec.upto fnChangesToSpec)

/-- 'laws.FnSafeFor', WHERE WHAT IT READS IS OF BULK AT MOST 1048576: true; the input reads as it did. -/
def fnSafeForUptoRow : OpenClaim := { program := "ytkogboechfieeaa", sum := "f99a4bff78b6293c7ce6918d977bd591ad928ec3aa13d5aab9a78cd0e484bfb7", func := "loop.example/charterrules/laws.FnSafeFor", spec := "fnSafeFor", unfollowed := true, recurses := true, apart := false, narrowed := true }
def FnSafeForUptoSaid : Prop := fnSafeForUptoRow.holds Try.pinned (OpenSpec.upto fnSafeForSpec)

/-- 'laws.FnFixedOf', WHERE WHAT IT READS IS OF BULK AT MOST 1048576: true; the input reads as it did. -/
def fnFixedOfUptoRow : OpenClaim := { program := "ytkogboechfieeaa", sum := "f99a4bff78b6293c7ce6918d977bd591ad928ec3aa13d5aab9a78cd0e484bfb7", func := "loop.example/charterrules/laws.FnFixedOf", spec := "fnFixedOf", unfollowed := true, recurses := true, apart := false, narrowed := true }
def FnFixedOfUptoSaid : Prop := fnFixedOfUptoRow.holds Try.pinned (OpenSpec.upto fnFixedOfSpec)

/-- 'laws.FnAmendersOf', WHERE WHAT IT READS IS OF BULK AT MOST 1048576: true; the input reads as it did. -/
def fnAmendersOfUptoRow : OpenClaim := { program := "ytkogboechfieeaa", sum := "f99a4bff78b6293c7ce6918d977bd591ad928ec3aa13d5aab9a78cd0e484bfb7", func := "loop.example/charterrules/laws.FnAmendersOf", spec := "fnAmendersOf", unfollowed := true, recurses := true, apart := false, narrowed := true }
def FnAmendersOfUptoSaid : Prop := fnAmendersOfUptoRow.holds Try.pinned (OpenSpec.upto fnAmendersOfSpec)

/-- 'laws.FnBreakersOf', WHERE WHAT IT READS IS OF BULK AT MOST 1048576: true; the input reads as it did. -/
def fnBreakersOfUptoRow : OpenClaim := { program := "ytkogboechfieeaa", sum := "f99a4bff78b6293c7ce6918d977bd591ad928ec3aa13d5aab9a78cd0e484bfb7", func := "loop.example/charterrules/laws.FnBreakersOf", spec := "fnBreakersOf", unfollowed := true, recurses := true, apart := false, narrowed := true }
def FnBreakersOfUptoSaid : Prop := fnBreakersOfUptoRow.holds Try.pinned (OpenSpec.upto fnBreakersOfSpec)

/-- 'laws.FnGuardsOf', WHERE WHAT IT READS IS OF BULK AT MOST 1048576: true; the input reads as it did. -/
def fnGuardsOfUptoRow : OpenClaim := { program := "ytkogboechfieeaa", sum := "f99a4bff78b6293c7ce6918d977bd591ad928ec3aa13d5aab9a78cd0e484bfb7", func := "loop.example/charterrules/laws.FnGuardsOf", spec := "fnGuardsOf", unfollowed := true, recurses := true, apart := false, narrowed := true }
def FnGuardsOfUptoSaid : Prop := fnGuardsOfUptoRow.holds Try.pinned (OpenSpec.upto fnGuardsOfSpec)

/-- 'laws.FnNeverOf', WHERE WHAT IT READS IS OF BULK AT MOST 1048576: true; the input reads as it did. -/
def fnNeverOfUptoRow : OpenClaim := { program := "ytkogboechfieeaa", sum := "f99a4bff78b6293c7ce6918d977bd591ad928ec3aa13d5aab9a78cd0e484bfb7", func := "loop.example/charterrules/laws.FnNeverOf", spec := "fnNeverOf", unfollowed := true, recurses := true, apart := false, narrowed := true }
def FnNeverOfUptoSaid : Prop := fnNeverOfUptoRow.holds Try.pinned (OpenSpec.upto fnNeverOfSpec)

end Rows
end Go.Proofs.Ytkogboechfieeaa

/-
  No cell of these rows narrows 'for every input' (looked for: loops, veiled, ifaces, maps, wideKeys, modest, calm, conditions, laid).
  DERIVED. THE GIVEN ROWS OF THIS SEAT. 12 by the template 'for every input the law returns true; each argument reads behind the call as it read before'; 0 by the template 'total and deterministic' (their statements: YtifffgoldielbaaTotals.lean).
  GIVEN WITH THE SEED: the statements are not yours to turn. If you find one false, say at which input.
  Laid BY PROGRAM, IN A SANDBOX (cutbox-rows.mjs): the forced cells as the released guide's own fill.sh prints them over the translation 7c68b9527202a269… (all of the seat's roots in one cut). By AI agents, Wed Nov 11 2026. No macro, syntax, notation, axiom, sorry.
-/
import Derived.Test.YtifffgoldielbaaChecked
import GoSem.Claim
import GoSem.ClaimJoined
import GoSem.ClaimMapViews
import Derived.JoinedTies
import Derived.KernelRfl
namespace Go.Proofs.Ytifffgoldielbaa
/- THE CELL 'sum', in the pinned program and in every row, IS THE sha256 OF THE DUMP (.gsa) THAT YtifffgoldielbaaProg.lean LOADS. Nothing in Lean hashes anything: it is a label: what it is worth is what the hold of that sum in a sandbox is worth. -/
noncomputable def Try.pinned : Pinned := { name := "ytifffgoldielbaa", sum := "7c68b9527202a269b9fc2cbb6b62d83f8cfda53941990a7646c966aeb0ccfe36", checked := Try.checked }
namespace Rows
def none {H : Type} : Left H := { results := [], args := [] }

/-- 'laws.FnExactTrustOk': WHATEVER THE INPUT: true; the input reads as it did. -/
def fnExactTrustOkSpec : ChangeSpec := { name := "fnExactTrustOk", fn := fun _ => fun
  | [d] => { results := [.lit (.bool true)], args := [d] }
  | _ => none }
def fnExactTrustOkRow : OpenClaim := { program := "ytifffgoldielbaa", sum := "7c68b9527202a269b9fc2cbb6b62d83f8cfda53941990a7646c966aeb0ccfe36", func := "loop.example/charterrules/laws.FnExactTrustOk", spec := "fnExactTrustOk", apart := false }
def FnExactTrustOkSaid : Prop := fnExactTrustOkRow.holds Try.pinned (OpenSpec.ofChange fnExactTrustOkSpec)

/-- ITS FALSE NEIGHBOUR: 'it returns false'. Refute it at one input. -/
def fnExactTrustOkWrong : ChangeSpec := { name := "fnExactTrustOk", fn := fun _ => fun
  | [d] => { results := [.lit (.bool false)], args := [d] }
  | _ => none }
def FnExactTrustOkWrongFalsely : Prop := fnExactTrustOkRow.holds Try.pinned (OpenSpec.ofChange fnExactTrustOkWrong)

/-- 'laws.FnExactVoiceOf': WHATEVER THE INPUT: true; the input reads as it did. -/
def fnExactVoiceOfSpec : ChangeSpec := { name := "fnExactVoiceOf", fn := fun _ => fun
  | [d1, d2] => { results := [.lit (.bool true)], args := [d1, d2] }
  | _ => none }
def fnExactVoiceOfRow : OpenClaim := { program := "ytifffgoldielbaa", sum := "7c68b9527202a269b9fc2cbb6b62d83f8cfda53941990a7646c966aeb0ccfe36", func := "loop.example/charterrules/laws.FnExactVoiceOf", spec := "fnExactVoiceOf", apart := false }
def FnExactVoiceOfSaid : Prop := fnExactVoiceOfRow.holds Try.pinned (OpenSpec.ofChange fnExactVoiceOfSpec)

/-- ITS FALSE NEIGHBOUR: 'it returns false'. Refute it at one input. -/
def fnExactVoiceOfWrong : ChangeSpec := { name := "fnExactVoiceOf", fn := fun _ => fun
  | [d1, d2] => { results := [.lit (.bool false)], args := [d1, d2] }
  | _ => none }
def FnExactVoiceOfWrongFalsely : Prop := fnExactVoiceOfRow.holds Try.pinned (OpenSpec.ofChange fnExactVoiceOfWrong)

/-- 'laws.FnTrustOk': WHATEVER THE INPUT: true; the input reads as it did. -/
def fnTrustOkSpec : ChangeSpec := { name := "fnTrustOk", fn := fun _ => fun
  | [d] => { results := [.lit (.bool true)], args := [d] }
  | _ => none }
def fnTrustOkRow : OpenClaim := { program := "ytifffgoldielbaa", sum := "7c68b9527202a269b9fc2cbb6b62d83f8cfda53941990a7646c966aeb0ccfe36", func := "loop.example/charterrules/laws.FnTrustOk", spec := "fnTrustOk", apart := false }
def FnTrustOkSaid : Prop := fnTrustOkRow.holds Try.pinned (OpenSpec.ofChange fnTrustOkSpec)

/-- ITS FALSE NEIGHBOUR: 'it returns false'. Refute it at one input. -/
def fnTrustOkWrong : ChangeSpec := { name := "fnTrustOk", fn := fun _ => fun
  | [d] => { results := [.lit (.bool false)], args := [d] }
  | _ => none }
def FnTrustOkWrongFalsely : Prop := fnTrustOkRow.holds Try.pinned (OpenSpec.ofChange fnTrustOkWrong)

/-- 'laws.FnExactLostOf': WHATEVER THE INPUT: true; the input reads as it did. -/
def fnExactLostOfSpec : ChangeSpec := { name := "fnExactLostOf", fn := fun _ => fun
  | [d] => { results := [.lit (.bool true)], args := [d] }
  | _ => none }
def fnExactLostOfRow : OpenClaim := { program := "ytifffgoldielbaa", sum := "7c68b9527202a269b9fc2cbb6b62d83f8cfda53941990a7646c966aeb0ccfe36", func := "loop.example/charterrules/laws.FnExactLostOf", spec := "fnExactLostOf", apart := false }
def FnExactLostOfSaid : Prop := fnExactLostOfRow.holds Try.pinned (OpenSpec.ofChange fnExactLostOfSpec)

/-- ITS FALSE NEIGHBOUR: 'it returns false'. Refute it at one input. -/
def fnExactLostOfWrong : ChangeSpec := { name := "fnExactLostOf", fn := fun _ => fun
  | [d] => { results := [.lit (.bool false)], args := [d] }
  | _ => none }
def FnExactLostOfWrongFalsely : Prop := fnExactLostOfRow.holds Try.pinned (OpenSpec.ofChange fnExactLostOfWrong)

/-- 'laws.FnExactSpokenFor': WHATEVER THE INPUT: true; the input reads as it did. -/
def fnExactSpokenForSpec : ChangeSpec := { name := "fnExactSpokenFor", fn := fun _ => fun
  | [d1, d2] => { results := [.lit (.bool true)], args := [d1, d2] }
  | _ => none }
def fnExactSpokenForRow : OpenClaim := { program := "ytifffgoldielbaa", sum := "7c68b9527202a269b9fc2cbb6b62d83f8cfda53941990a7646c966aeb0ccfe36", func := "loop.example/charterrules/laws.FnExactSpokenFor", spec := "fnExactSpokenFor", apart := false }
def FnExactSpokenForSaid : Prop := fnExactSpokenForRow.holds Try.pinned (OpenSpec.ofChange fnExactSpokenForSpec)

/-- ITS FALSE NEIGHBOUR: 'it returns false'. Refute it at one input. -/
def fnExactSpokenForWrong : ChangeSpec := { name := "fnExactSpokenFor", fn := fun _ => fun
  | [d1, d2] => { results := [.lit (.bool false)], args := [d1, d2] }
  | _ => none }
def FnExactSpokenForWrongFalsely : Prop := fnExactSpokenForRow.holds Try.pinned (OpenSpec.ofChange fnExactSpokenForWrong)

/-- 'laws.FnVoiceJoins': WHATEVER THE INPUT: true; the input reads as it did. -/
def fnVoiceJoinsSpec : ChangeSpec := { name := "fnVoiceJoins", fn := fun _ => fun
  | [d] => { results := [.lit (.bool true)], args := [d] }
  | _ => none }
def fnVoiceJoinsRow : OpenClaim := { program := "ytifffgoldielbaa", sum := "7c68b9527202a269b9fc2cbb6b62d83f8cfda53941990a7646c966aeb0ccfe36", func := "loop.example/charterrules/laws.FnVoiceJoins", spec := "fnVoiceJoins", apart := false }
def FnVoiceJoinsSaid : Prop := fnVoiceJoinsRow.holds Try.pinned (OpenSpec.ofChange fnVoiceJoinsSpec)

/-- ITS FALSE NEIGHBOUR: 'it returns false'. Refute it at one input. -/
def fnVoiceJoinsWrong : ChangeSpec := { name := "fnVoiceJoins", fn := fun _ => fun
  | [d] => { results := [.lit (.bool false)], args := [d] }
  | _ => none }
def FnVoiceJoinsWrongFalsely : Prop := fnVoiceJoinsRow.holds Try.pinned (OpenSpec.ofChange fnVoiceJoinsWrong)

/-- 'laws.FnExactStraightTrust': WHATEVER THE INPUT: true; the input reads as it did. -/
def fnExactStraightTrustSpec : ChangeSpec := { name := "fnExactStraightTrust", fn := fun _ => fun
  | [d] => { results := [.lit (.bool true)], args := [d] }
  | _ => none }
def fnExactStraightTrustRow : OpenClaim := { program := "ytifffgoldielbaa", sum := "7c68b9527202a269b9fc2cbb6b62d83f8cfda53941990a7646c966aeb0ccfe36", func := "loop.example/charterrules/laws.FnExactStraightTrust", spec := "fnExactStraightTrust", apart := false }
def FnExactStraightTrustSaid : Prop := fnExactStraightTrustRow.holds Try.pinned (OpenSpec.ofChange fnExactStraightTrustSpec)

/-- ITS FALSE NEIGHBOUR: 'it returns false'. Refute it at one input. -/
def fnExactStraightTrustWrong : ChangeSpec := { name := "fnExactStraightTrust", fn := fun _ => fun
  | [d] => { results := [.lit (.bool false)], args := [d] }
  | _ => none }
def FnExactStraightTrustWrongFalsely : Prop := fnExactStraightTrustRow.holds Try.pinned (OpenSpec.ofChange fnExactStraightTrustWrong)

/-- 'laws.FnExactWeightsOf': WHATEVER THE INPUT: true; the input reads as it did. -/
def fnExactWeightsOfSpec : ChangeSpec := { name := "fnExactWeightsOf", fn := fun _ => fun
  | [d] => { results := [.lit (.bool true)], args := [d] }
  | _ => none }
def fnExactWeightsOfRow : OpenClaim := { program := "ytifffgoldielbaa", sum := "7c68b9527202a269b9fc2cbb6b62d83f8cfda53941990a7646c966aeb0ccfe36", func := "loop.example/charterrules/laws.FnExactWeightsOf", spec := "fnExactWeightsOf", apart := false }
def FnExactWeightsOfSaid : Prop := fnExactWeightsOfRow.holds Try.pinned (OpenSpec.ofChange fnExactWeightsOfSpec)

/-- ITS FALSE NEIGHBOUR: 'it returns false'. Refute it at one input. -/
def fnExactWeightsOfWrong : ChangeSpec := { name := "fnExactWeightsOf", fn := fun _ => fun
  | [d] => { results := [.lit (.bool false)], args := [d] }
  | _ => none }
def FnExactWeightsOfWrongFalsely : Prop := fnExactWeightsOfRow.holds Try.pinned (OpenSpec.ofChange fnExactWeightsOfWrong)

/-- 'laws.FnVoiceOf': WHATEVER THE INPUT: true; the input reads as it did. -/
def fnVoiceOfSpec : ChangeSpec := { name := "fnVoiceOf", fn := fun _ => fun
  | [d] => { results := [.lit (.bool true)], args := [d] }
  | _ => none }
def fnVoiceOfRow : OpenClaim := { program := "ytifffgoldielbaa", sum := "7c68b9527202a269b9fc2cbb6b62d83f8cfda53941990a7646c966aeb0ccfe36", func := "loop.example/charterrules/laws.FnVoiceOf", spec := "fnVoiceOf", apart := false }
def FnVoiceOfSaid : Prop := fnVoiceOfRow.holds Try.pinned (OpenSpec.ofChange fnVoiceOfSpec)

/-- ITS FALSE NEIGHBOUR: 'it returns false'. Refute it at one input. -/
def fnVoiceOfWrong : ChangeSpec := { name := "fnVoiceOf", fn := fun _ => fun
  | [d] => { results := [.lit (.bool false)], args := [d] }
  | _ => none }
def FnVoiceOfWrongFalsely : Prop := fnVoiceOfRow.holds Try.pinned (OpenSpec.ofChange fnVoiceOfWrong)

/-- 'laws.FnLostOf': WHATEVER THE INPUT: true; the input reads as it did. -/
def fnLostOfSpec : ChangeSpec := { name := "fnLostOf", fn := fun _ => fun
  | [d] => { results := [.lit (.bool true)], args := [d] }
  | _ => none }
def fnLostOfRow : OpenClaim := { program := "ytifffgoldielbaa", sum := "7c68b9527202a269b9fc2cbb6b62d83f8cfda53941990a7646c966aeb0ccfe36", func := "loop.example/charterrules/laws.FnLostOf", spec := "fnLostOf", apart := false }
def FnLostOfSaid : Prop := fnLostOfRow.holds Try.pinned (OpenSpec.ofChange fnLostOfSpec)

/-- ITS FALSE NEIGHBOUR: 'it returns false'. Refute it at one input. -/
def fnLostOfWrong : ChangeSpec := { name := "fnLostOf", fn := fun _ => fun
  | [d] => { results := [.lit (.bool false)], args := [d] }
  | _ => none }
def FnLostOfWrongFalsely : Prop := fnLostOfRow.holds Try.pinned (OpenSpec.ofChange fnLostOfWrong)

/-- 'laws.FnSpokenFor': WHATEVER THE INPUT: true; the input reads as it did. -/
def fnSpokenForSpec : ChangeSpec := { name := "fnSpokenFor", fn := fun _ => fun
  | [d1, d2] => { results := [.lit (.bool true)], args := [d1, d2] }
  | _ => none }
def fnSpokenForRow : OpenClaim := { program := "ytifffgoldielbaa", sum := "7c68b9527202a269b9fc2cbb6b62d83f8cfda53941990a7646c966aeb0ccfe36", func := "loop.example/charterrules/laws.FnSpokenFor", spec := "fnSpokenFor", apart := false }
def FnSpokenForSaid : Prop := fnSpokenForRow.holds Try.pinned (OpenSpec.ofChange fnSpokenForSpec)

/-- ITS FALSE NEIGHBOUR: 'it returns false'. Refute it at one input. -/
def fnSpokenForWrong : ChangeSpec := { name := "fnSpokenFor", fn := fun _ => fun
  | [d1, d2] => { results := [.lit (.bool false)], args := [d1, d2] }
  | _ => none }
def FnSpokenForWrongFalsely : Prop := fnSpokenForRow.holds Try.pinned (OpenSpec.ofChange fnSpokenForWrong)

/-- 'laws.FnStraightTrust': WHATEVER THE INPUT: true; the input reads as it did. -/
def fnStraightTrustSpec : ChangeSpec := { name := "fnStraightTrust", fn := fun _ => fun
  | [d] => { results := [.lit (.bool true)], args := [d] }
  | _ => none }
def fnStraightTrustRow : OpenClaim := { program := "ytifffgoldielbaa", sum := "7c68b9527202a269b9fc2cbb6b62d83f8cfda53941990a7646c966aeb0ccfe36", func := "loop.example/charterrules/laws.FnStraightTrust", spec := "fnStraightTrust", apart := false }
def FnStraightTrustSaid : Prop := fnStraightTrustRow.holds Try.pinned (OpenSpec.ofChange fnStraightTrustSpec)

/-- ITS FALSE NEIGHBOUR: 'it returns false'. Refute it at one input. -/
def fnStraightTrustWrong : ChangeSpec := { name := "fnStraightTrust", fn := fun _ => fun
  | [d] => { results := [.lit (.bool false)], args := [d] }
  | _ => none }
def FnStraightTrustWrongFalsely : Prop := fnStraightTrustRow.holds Try.pinned (OpenSpec.ofChange fnStraightTrustWrong)

/- THE SECOND FORM. 'bulk': how many values and letters a reading holds, each counted each time it is reached (what is shared counts as often as it is met; a slice's spare places count too). A statement '..UptoSaid' is the law's where the arguments, and the package variables that the reading takes, are together of bulk at most 1048576: NARROWER than '..Said'. Prove '..Said' where nothing that the law and all that it calls make is longer than what came in: it says more and counts as full. Else prove '..UptoSaid'. A law counts once. -/
mutual
def uptoBulk {H : Type} : DataW H → Nat
  | .lit (.string bytes) => bytes.length + 1
  | .lit _ => 1
  | .nil => 1
  | .ptr d => uptoBulk d + 1
  | .slice elems spare => uptoBulkAll elems + uptoBulkAll spare + 1
  | .agg parts => uptoBulkAll parts + 1
  | .iface _ d => uptoBulk d + 1
  | .map entries => uptoBulkEntries entries + 1
  | .held _ => 1
def uptoBulkAll {H : Type} : List (DataW H) → Nat
  | [] => 0
  | d :: r => uptoBulk d + uptoBulkAll r
def uptoBulkEntries {H : Type} : List (Lit × DataW H) → Nat
  | [] => 0
  | x :: r => uptoBulkEntry x + uptoBulkEntries r
def uptoBulkEntry {H : Type} : Lit × DataW H → Nat
  | (.string bytes, d) => bytes.length + uptoBulk d + 1
  | (_, d) => uptoBulk d + 1
 end
def uptoSmall : (H : Type) → List (DataW H) → Bool := fun _ ds => decide (uptoBulkAll ds ≤ 1048576)
def OpenSpec.upto (s : _root_.Go.ChangeSpec) : _root_.Go.OpenSpec := { _root_.Go.OpenSpec.ofChange s with cond := some uptoSmall }

/-- 'laws.FnExactTrustOk', WHERE WHAT IT READS IS OF BULK AT MOST 1048576: true; the input reads as it did. -/
def fnExactTrustOkUptoRow : OpenClaim := { program := "ytifffgoldielbaa", sum := "7c68b9527202a269b9fc2cbb6b62d83f8cfda53941990a7646c966aeb0ccfe36", func := "loop.example/charterrules/laws.FnExactTrustOk", spec := "fnExactTrustOk", apart := false, narrowed := true }
def FnExactTrustOkUptoSaid : Prop := fnExactTrustOkUptoRow.holds Try.pinned (OpenSpec.upto fnExactTrustOkSpec)

/-- 'laws.FnExactVoiceOf', WHERE WHAT IT READS IS OF BULK AT MOST 1048576: true; the input reads as it did. -/
def fnExactVoiceOfUptoRow : OpenClaim := { program := "ytifffgoldielbaa", sum := "7c68b9527202a269b9fc2cbb6b62d83f8cfda53941990a7646c966aeb0ccfe36", func := "loop.example/charterrules/laws.FnExactVoiceOf", spec := "fnExactVoiceOf", apart := false, narrowed := true }
def FnExactVoiceOfUptoSaid : Prop := fnExactVoiceOfUptoRow.holds Try.pinned (OpenSpec.upto fnExactVoiceOfSpec)

/-- 'laws.FnTrustOk', WHERE WHAT IT READS IS OF BULK AT MOST 1048576: true; the input reads as it did. -/
def fnTrustOkUptoRow : OpenClaim := { program := "ytifffgoldielbaa", sum := "7c68b9527202a269b9fc2cbb6b62d83f8cfda53941990a7646c966aeb0ccfe36", func := "loop.example/charterrules/laws.FnTrustOk", spec := "fnTrustOk", apart := false, narrowed := true }
def FnTrustOkUptoSaid : Prop := fnTrustOkUptoRow.holds Try.pinned (OpenSpec.upto fnTrustOkSpec)

/-- 'laws.FnExactLostOf', WHERE WHAT IT READS IS OF BULK AT MOST 1048576: true; the input reads as it did. -/
def fnExactLostOfUptoRow : OpenClaim := { program := "ytifffgoldielbaa", sum := "7c68b9527202a269b9fc2cbb6b62d83f8cfda53941990a7646c966aeb0ccfe36", func := "loop.example/charterrules/laws.FnExactLostOf", spec := "fnExactLostOf", apart := false, narrowed := true }
def FnExactLostOfUptoSaid : Prop := fnExactLostOfUptoRow.holds Try.pinned (OpenSpec.upto fnExactLostOfSpec)

/-- 'laws.FnExactSpokenFor', WHERE WHAT IT READS IS OF BULK AT MOST 1048576: true; the input reads as it did. -/
def fnExactSpokenForUptoRow : OpenClaim := { program := "ytifffgoldielbaa", sum := "7c68b9527202a269b9fc2cbb6b62d83f8cfda53941990a7646c966aeb0ccfe36", func := "loop.example/charterrules/laws.FnExactSpokenFor", spec := "fnExactSpokenFor", apart := false, narrowed := true }
def FnExactSpokenForUptoSaid : Prop := fnExactSpokenForUptoRow.holds Try.pinned (OpenSpec.upto fnExactSpokenForSpec)

/-- 'laws.FnVoiceJoins', WHERE WHAT IT READS IS OF BULK AT MOST 1048576: true; the input reads as it did. -/
def fnVoiceJoinsUptoRow : OpenClaim := { program := "ytifffgoldielbaa", sum := "7c68b9527202a269b9fc2cbb6b62d83f8cfda53941990a7646c966aeb0ccfe36", func := "loop.example/charterrules/laws.FnVoiceJoins", spec := "fnVoiceJoins", apart := false, narrowed := true }
def FnVoiceJoinsUptoSaid : Prop := fnVoiceJoinsUptoRow.holds Try.pinned (OpenSpec.upto fnVoiceJoinsSpec)

/-- 'laws.FnExactStraightTrust', WHERE WHAT IT READS IS OF BULK AT MOST 1048576: true; the input reads as it did. -/
def fnExactStraightTrustUptoRow : OpenClaim := { program := "ytifffgoldielbaa", sum := "7c68b9527202a269b9fc2cbb6b62d83f8cfda53941990a7646c966aeb0ccfe36", func := "loop.example/charterrules/laws.FnExactStraightTrust", spec := "fnExactStraightTrust", apart := false, narrowed := true }
def FnExactStraightTrustUptoSaid : Prop := fnExactStraightTrustUptoRow.holds Try.pinned (OpenSpec.upto fnExactStraightTrustSpec)

/-- 'laws.FnExactWeightsOf', WHERE WHAT IT READS IS OF BULK AT MOST 1048576: true; the input reads as it did. -/
def fnExactWeightsOfUptoRow : OpenClaim := { program := "ytifffgoldielbaa", sum := "7c68b9527202a269b9fc2cbb6b62d83f8cfda53941990a7646c966aeb0ccfe36", func := "loop.example/charterrules/laws.FnExactWeightsOf", spec := "fnExactWeightsOf", apart := false, narrowed := true }
def FnExactWeightsOfUptoSaid : Prop := fnExactWeightsOfUptoRow.holds Try.pinned (OpenSpec.upto fnExactWeightsOfSpec)

/-- 'laws.FnVoiceOf', WHERE WHAT IT READS IS OF BULK AT MOST 1048576: true; the input reads as it did. -/
def fnVoiceOfUptoRow : OpenClaim := { program := "ytifffgoldielbaa", sum := "7c68b9527202a269b9fc2cbb6b62d83f8cfda53941990a7646c966aeb0ccfe36", func := "loop.example/charterrules/laws.FnVoiceOf", spec := "fnVoiceOf", apart := false, narrowed := true }
def FnVoiceOfUptoSaid : Prop := fnVoiceOfUptoRow.holds Try.pinned (OpenSpec.upto fnVoiceOfSpec)

/-- 'laws.FnLostOf', WHERE WHAT IT READS IS OF BULK AT MOST 1048576: true; the input reads as it did. -/
def fnLostOfUptoRow : OpenClaim := { program := "ytifffgoldielbaa", sum := "7c68b9527202a269b9fc2cbb6b62d83f8cfda53941990a7646c966aeb0ccfe36", func := "loop.example/charterrules/laws.FnLostOf", spec := "fnLostOf", apart := false, narrowed := true }
def FnLostOfUptoSaid : Prop := fnLostOfUptoRow.holds Try.pinned (OpenSpec.upto fnLostOfSpec)

/-- 'laws.FnSpokenFor', WHERE WHAT IT READS IS OF BULK AT MOST 1048576: true; the input reads as it did. -/
def fnSpokenForUptoRow : OpenClaim := { program := "ytifffgoldielbaa", sum := "7c68b9527202a269b9fc2cbb6b62d83f8cfda53941990a7646c966aeb0ccfe36", func := "loop.example/charterrules/laws.FnSpokenFor", spec := "fnSpokenFor", apart := false, narrowed := true }
def FnSpokenForUptoSaid : Prop := fnSpokenForUptoRow.holds Try.pinned (OpenSpec.upto fnSpokenForSpec)

/-- 'laws.FnStraightTrust', WHERE WHAT IT READS IS OF BULK AT MOST 1048576: true; the input reads as it did. -/
def fnStraightTrustUptoRow : OpenClaim := { program := "ytifffgoldielbaa", sum := "7c68b9527202a269b9fc2cbb6b62d83f8cfda53941990a7646c966aeb0ccfe36", func := "loop.example/charterrules/laws.FnStraightTrust", spec := "fnStraightTrust", apart := false, narrowed := true }
def FnStraightTrustUptoSaid : Prop := fnStraightTrustUptoRow.holds Try.pinned (OpenSpec.upto fnStraightTrustSpec)

end Rows
end Go.Proofs.Ytifffgoldielbaa

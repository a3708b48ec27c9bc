/-
  No cell of these rows narrows 'for every input' (looked for: loops, veiled, ifaces, maps, wideKeys, modest, calm, conditions, laid).
  DERIVED. THE GIVEN ROWS OF THIS SEAT. 9 by the template 'for every input the law returns true; each argument reads behind the call as it read before'; 0 by the template 'total and deterministic' (their statements: YtojoblllgddckaaTotals.lean).
  GIVEN WITH THE SEED: the statements are not yours to turn. If you find one false, say at which input.
  Laid BY PROGRAM, IN A SANDBOX (cutbox-rows.mjs): the forced cells as the released guide's own fill.sh prints them over the translation 5abc6344b4888255… (all of the seat's roots in one cut). By AI agents, Wed Nov 11 2026. No macro, syntax, notation, axiom, sorry.
-/
import Derived.Test.YtojoblllgddckaaChecked
import GoSem.Claim
import GoSem.ClaimJoined
import GoSem.ClaimMapViews
import Derived.JoinedTies
import Derived.KernelRfl
namespace Go.Proofs.Ytojoblllgddckaa
/- THE CELL 'sum', in the pinned program and in every row, IS THE sha256 OF THE DUMP (.gsa) THAT YtojoblllgddckaaProg.lean LOADS. Nothing in Lean hashes anything: it is a label: what it is worth is what the hold of that sum in a sandbox is worth. -/
noncomputable def Try.pinned : Pinned := { name := "ytojoblllgddckaa", sum := "5abc6344b4888255e7bbad1a36fa2a8a0db5e0b97bfdaa4f17c3ac9263c88e1b", checked := Try.checked }
namespace Rows
def none {H : Type} : Left H := { results := [], args := [] }

/-- 'laws.FnPivotsByOrders': WHATEVER THE INPUT: true; the input reads as it did. -/
def fnPivotsByOrdersSpec : ChangeSpec := { name := "fnPivotsByOrders", fn := fun _ => fun
  | [d] => { results := [.lit (.bool true)], args := [d] }
  | _ => none }
def fnPivotsByOrdersRow : OpenClaim := { program := "ytojoblllgddckaa", sum := "5abc6344b4888255e7bbad1a36fa2a8a0db5e0b97bfdaa4f17c3ac9263c88e1b", func := "loop.example/charterrules/laws.FnPivotsByOrders", spec := "fnPivotsByOrders", apart := false }
def FnPivotsByOrdersSaid : Prop := fnPivotsByOrdersRow.holds Try.pinned (OpenSpec.ofChange fnPivotsByOrdersSpec)

/-- ITS FALSE NEIGHBOUR: 'it returns false'. Refute it at one input. -/
def fnPivotsByOrdersWrong : ChangeSpec := { name := "fnPivotsByOrders", fn := fun _ => fun
  | [d] => { results := [.lit (.bool false)], args := [d] }
  | _ => none }
def FnPivotsByOrdersWrongFalsely : Prop := fnPivotsByOrdersRow.holds Try.pinned (OpenSpec.ofChange fnPivotsByOrdersWrong)

/-- 'laws.FnSameMembers': WHATEVER THE INPUT: true; the input reads as it did. -/
def fnSameMembersSpec : ChangeSpec := { name := "fnSameMembers", fn := fun _ => fun
  | [d] => { results := [.lit (.bool true)], args := [d] }
  | _ => none }
def fnSameMembersRow : OpenClaim := { program := "ytojoblllgddckaa", sum := "5abc6344b4888255e7bbad1a36fa2a8a0db5e0b97bfdaa4f17c3ac9263c88e1b", func := "loop.example/charterrules/laws.FnSameMembers", spec := "fnSameMembers", apart := false }
def FnSameMembersSaid : Prop := fnSameMembersRow.holds Try.pinned (OpenSpec.ofChange fnSameMembersSpec)

/-- ITS FALSE NEIGHBOUR: 'it returns false'. Refute it at one input. -/
def fnSameMembersWrong : ChangeSpec := { name := "fnSameMembers", fn := fun _ => fun
  | [d] => { results := [.lit (.bool false)], args := [d] }
  | _ => none }
def FnSameMembersWrongFalsely : Prop := fnSameMembersRow.holds Try.pinned (OpenSpec.ofChange fnSameMembersWrong)

/-- 'laws.FnTrustConsent': WHATEVER THE INPUT: true; the input reads as it did. -/
def fnTrustConsentSpec : ChangeSpec := { name := "fnTrustConsent", fn := fun _ => fun
  | [d1, d2] => { results := [.lit (.bool true)], args := [d1, d2] }
  | _ => none }
def fnTrustConsentRow : OpenClaim := { program := "ytojoblllgddckaa", sum := "5abc6344b4888255e7bbad1a36fa2a8a0db5e0b97bfdaa4f17c3ac9263c88e1b", func := "loop.example/charterrules/laws.FnTrustConsent", spec := "fnTrustConsent", apart := false }
def FnTrustConsentSaid : Prop := fnTrustConsentRow.holds Try.pinned (OpenSpec.ofChange fnTrustConsentSpec)

/-- ITS FALSE NEIGHBOUR: 'it returns false'. Refute it at one input. -/
def fnTrustConsentWrong : ChangeSpec := { name := "fnTrustConsent", fn := fun _ => fun
  | [d1, d2] => { results := [.lit (.bool false)], args := [d1, d2] }
  | _ => none }
def FnTrustConsentWrongFalsely : Prop := fnTrustConsentRow.holds Try.pinned (OpenSpec.ofChange fnTrustConsentWrong)

/-- 'laws.FnApartOk': WHATEVER THE INPUT: true; the input reads as it did. -/
def fnApartOkSpec : ChangeSpec := { name := "fnApartOk", fn := fun _ => fun
  | [d] => { results := [.lit (.bool true)], args := [d] }
  | _ => none }
def fnApartOkRow : OpenClaim := { program := "ytojoblllgddckaa", sum := "5abc6344b4888255e7bbad1a36fa2a8a0db5e0b97bfdaa4f17c3ac9263c88e1b", func := "loop.example/charterrules/laws.FnApartOk", spec := "fnApartOk", unfollowed := true, recurses := true, apart := false }
def FnApartOkSaid : Prop := fnApartOkRow.holds Try.pinned (OpenSpec.ofChange fnApartOkSpec)

/-- ITS FALSE NEIGHBOUR: 'it returns false'. Refute it at one input. -/
def fnApartOkWrong : ChangeSpec := { name := "fnApartOk", fn := fun _ => fun
  | [d] => { results := [.lit (.bool false)], args := [d] }
  | _ => none }
def FnApartOkWrongFalsely : Prop := fnApartOkRow.holds Try.pinned (OpenSpec.ofChange fnApartOkWrong)

/-- 'laws.FnActsSuffice': WHATEVER THE INPUT: true; the input reads as it did. -/
def fnActsSufficeSpec : ChangeSpec := { name := "fnActsSuffice", fn := fun _ => fun
  | [d] => { results := [.lit (.bool true)], args := [d] }
  | _ => none }
def fnActsSufficeRow : OpenClaim := { program := "ytojoblllgddckaa", sum := "5abc6344b4888255e7bbad1a36fa2a8a0db5e0b97bfdaa4f17c3ac9263c88e1b", func := "loop.example/charterrules/laws.FnActsSuffice", spec := "fnActsSuffice", apart := false }
def FnActsSufficeSaid : Prop := fnActsSufficeRow.holds Try.pinned (OpenSpec.ofChange fnActsSufficeSpec)

/-- ITS FALSE NEIGHBOUR: 'it returns false'. Refute it at one input. -/
def fnActsSufficeWrong : ChangeSpec := { name := "fnActsSuffice", fn := fun _ => fun
  | [d] => { results := [.lit (.bool false)], args := [d] }
  | _ => none }
def FnActsSufficeWrongFalsely : Prop := fnActsSufficeRow.holds Try.pinned (OpenSpec.ofChange fnActsSufficeWrong)

/-- 'laws.FnFirstVoid': WHATEVER THE INPUT: true; the input reads as it did. -/
def fnFirstVoidSpec : ChangeSpec := { name := "fnFirstVoid", fn := fun _ => fun
  | [d] => { results := [.lit (.bool true)], args := [d] }
  | _ => none }
def fnFirstVoidRow : OpenClaim := { program := "ytojoblllgddckaa", sum := "5abc6344b4888255e7bbad1a36fa2a8a0db5e0b97bfdaa4f17c3ac9263c88e1b", func := "loop.example/charterrules/laws.FnFirstVoid", spec := "fnFirstVoid", recurses := true, apart := false }
def FnFirstVoidSaid : Prop := fnFirstVoidRow.holds Try.pinned (OpenSpec.ofChange fnFirstVoidSpec)

/-- ITS FALSE NEIGHBOUR: 'it returns false'. Refute it at one input. -/
def fnFirstVoidWrong : ChangeSpec := { name := "fnFirstVoid", fn := fun _ => fun
  | [d] => { results := [.lit (.bool false)], args := [d] }
  | _ => none }
def FnFirstVoidWrongFalsely : Prop := fnFirstVoidRow.holds Try.pinned (OpenSpec.ofChange fnFirstVoidWrong)

/-- 'laws.FnEitherOrder': WHATEVER THE INPUT: true; the input reads as it did. -/
def fnEitherOrderSpec : ChangeSpec := { name := "fnEitherOrder", fn := fun _ => fun
  | [d] => { results := [.lit (.bool true)], args := [d] }
  | _ => none }
def fnEitherOrderRow : OpenClaim := { program := "ytojoblllgddckaa", sum := "5abc6344b4888255e7bbad1a36fa2a8a0db5e0b97bfdaa4f17c3ac9263c88e1b", func := "loop.example/charterrules/laws.FnEitherOrder", spec := "fnEitherOrder", unfollowed := true, recurses := true, apart := false }
def FnEitherOrderSaid : Prop := fnEitherOrderRow.holds Try.pinned (OpenSpec.ofChange fnEitherOrderSpec)

/-- ITS FALSE NEIGHBOUR: 'it returns false'. Refute it at one input. -/
def fnEitherOrderWrong : ChangeSpec := { name := "fnEitherOrder", fn := fun _ => fun
  | [d] => { results := [.lit (.bool false)], args := [d] }
  | _ => none }
def FnEitherOrderWrongFalsely : Prop := fnEitherOrderRow.holds Try.pinned (OpenSpec.ofChange fnEitherOrderWrong)

/-- 'laws.FnValidActs': WHATEVER THE INPUT: true; the input reads as it did. -/
def fnValidActsSpec : ChangeSpec := { name := "fnValidActs", fn := fun _ => fun
  | [d] => { results := [.lit (.bool true)], args := [d] }
  | _ => none }
def fnValidActsRow : OpenClaim := { program := "ytojoblllgddckaa", sum := "5abc6344b4888255e7bbad1a36fa2a8a0db5e0b97bfdaa4f17c3ac9263c88e1b", func := "loop.example/charterrules/laws.FnValidActs", spec := "fnValidActs", recurses := true, apart := false }
def FnValidActsSaid : Prop := fnValidActsRow.holds Try.pinned (OpenSpec.ofChange fnValidActsSpec)

/-- ITS FALSE NEIGHBOUR: 'it returns false'. Refute it at one input. -/
def fnValidActsWrong : ChangeSpec := { name := "fnValidActs", fn := fun _ => fun
  | [d] => { results := [.lit (.bool false)], args := [d] }
  | _ => none }
def FnValidActsWrongFalsely : Prop := fnValidActsRow.holds Try.pinned (OpenSpec.ofChange fnValidActsWrong)

/-- 'laws.FnSafeActs': WHATEVER THE INPUT: true; the input reads as it did. -/
def fnSafeActsSpec : ChangeSpec := { name := "fnSafeActs", fn := fun _ => fun
  | [d] => { results := [.lit (.bool true)], args := [d] }
  | _ => none }
def fnSafeActsRow : OpenClaim := { program := "ytojoblllgddckaa", sum := "5abc6344b4888255e7bbad1a36fa2a8a0db5e0b97bfdaa4f17c3ac9263c88e1b", func := "loop.example/charterrules/laws.FnSafeActs", spec := "fnSafeActs", unfollowed := true, recurses := true, apart := false }
def FnSafeActsSaid : Prop := fnSafeActsRow.holds Try.pinned (OpenSpec.ofChange fnSafeActsSpec)

/-- ITS FALSE NEIGHBOUR: 'it returns false'. Refute it at one input. -/
def fnSafeActsWrong : ChangeSpec := { name := "fnSafeActs", fn := fun _ => fun
  | [d] => { results := [.lit (.bool false)], args := [d] }
  | _ => none }
def FnSafeActsWrongFalsely : Prop := fnSafeActsRow.holds Try.pinned (OpenSpec.ofChange fnSafeActsWrong)

/- THE SECOND FORM. 'bulk': how many values and letters a reading holds, each counted each time it is reached (what is shared counts as often as it is met; a slice's spare places count too). A statement '..UptoSaid' is the law's where the arguments, and the package variables that the reading takes, are together of bulk at most 1048576: NARROWER than '..Said'. Prove '..Said' where nothing that the law and all that it calls make is longer than what came in: it says more and counts as full. Else prove '..UptoSaid'. A law counts once. -/
mutual
def uptoBulk {H : Type} : DataW H → Nat
  | .lit (.string bytes) => bytes.length + 1
  | .lit _ => 1
  | .nil => 1
  | .ptr d => uptoBulk d + 1
  | .slice elems spare => uptoBulkAll elems + uptoBulkAll spare + 1
  | .agg parts => uptoBulkAll parts + 1
  | .iface _ d => uptoBulk d + 1
  | .map entries => uptoBulkEntries entries + 1
  | .held _ => 1
def uptoBulkAll {H : Type} : List (DataW H) → Nat
  | [] => 0
  | d :: r => uptoBulk d + uptoBulkAll r
def uptoBulkEntries {H : Type} : List (Lit × DataW H) → Nat
  | [] => 0
  | x :: r => uptoBulkEntry x + uptoBulkEntries r
def uptoBulkEntry {H : Type} : Lit × DataW H → Nat
  | (.string bytes, d) => bytes.length + uptoBulk d + 1
  | (_, d) => uptoBulk d + 1
 end
def uptoSmall : (H : Type) → List (DataW H) → Bool := fun _ ds => decide (uptoBulkAll ds ≤ 1048576)
def OpenSpec.upto (s : _root_.Go.ChangeSpec) : _root_.Go.OpenSpec := { _root_.Go.OpenSpec.ofChange s with cond := some uptoSmall }

/-- 'laws.FnPivotsByOrders', WHERE WHAT IT READS IS OF BULK AT MOST 1048576: true; the input reads as it did. -/
def fnPivotsByOrdersUptoRow : OpenClaim := { program := "ytojoblllgddckaa", sum := "5abc6344b4888255e7bbad1a36fa2a8a0db5e0b97bfdaa4f17c3ac9263c88e1b", func := "loop.example/charterrules/laws.FnPivotsByOrders", spec := "fnPivotsByOrders", apart := false, narrowed := true }
def FnPivotsByOrdersUptoSaid : Prop := fnPivotsByOrdersUptoRow.holds Try.pinned (OpenSpec.upto fnPivotsByOrdersSpec)

/-- 'laws.FnSameMembers', WHERE WHAT IT READS IS OF BULK AT MOST 1048576: true; the input reads as it did. -/
def fnSameMembersUptoRow : OpenClaim := { program := "ytojoblllgddckaa", sum := "5abc6344b4888255e7bbad1a36fa2a8a0db5e0b97bfdaa4f17c3ac9263c88e1b", func := "loop.example/charterrules/laws.FnSameMembers", spec := "fnSameMembers", apart := false, narrowed := true }
def FnSameMembersUptoSaid : Prop := fnSameMembersUptoRow.holds Try.pinned (OpenSpec.upto fnSameMembersSpec)

/-- 'laws.FnTrustConsent', WHERE WHAT IT READS IS OF BULK AT MOST 1048576: true; the input reads as it did. -/
def fnTrustConsentUptoRow : OpenClaim := { program := "ytojoblllgddckaa", sum := "5abc6344b4888255e7bbad1a36fa2a8a0db5e0b97bfdaa4f17c3ac9263c88e1b", func := "loop.example/charterrules/laws.FnTrustConsent", spec := "fnTrustConsent", apart := false, narrowed := true }
def FnTrustConsentUptoSaid : Prop := fnTrustConsentUptoRow.holds Try.pinned (OpenSpec.upto fnTrustConsentSpec)

/-- 'laws.FnApartOk', WHERE WHAT IT READS IS OF BULK AT MOST 1048576: true; the input reads as it did. -/
def fnApartOkUptoRow : OpenClaim := { program := "ytojoblllgddckaa", sum := "5abc6344b4888255e7bbad1a36fa2a8a0db5e0b97bfdaa4f17c3ac9263c88e1b", func := "loop.example/charterrules/laws.FnApartOk", spec := "fnApartOk", unfollowed := true, recurses := true, apart := false, narrowed := true }
def FnApartOkUptoSaid : Prop := fnApartOkUptoRow.holds Try.pinned (OpenSpec.upto fnApartOkSpec)

/-- 'laws.FnActsSuffice', WHERE WHAT IT READS IS OF BULK AT MOST 1048576: true; the input reads as it did. -/
def fnActsSufficeUptoRow : OpenClaim := { program := "ytojoblllgddckaa", sum := "5abc6344b4888255e7bbad1a36fa2a8a0db5e0b97bfdaa4f17c3ac9263c88e1b", func := "loop.example/charterrules/laws.FnActsSuffice", spec := "fnActsSuffice", apart := false, narrowed := true }
def FnActsSufficeUptoSaid : Prop := fnActsSufficeUptoRow.holds Try.pinned (OpenSpec.upto fnActsSufficeSpec)

/-- 'laws.FnFirstVoid', WHERE WHAT IT READS IS OF BULK AT MOST 1048576: true; the input reads as it did. -/
def fnFirstVoidUptoRow : OpenClaim := { program := "ytojoblllgddckaa", sum := "5abc6344b4888255e7bbad1a36fa2a8a0db5e0b97bfdaa4f17c3ac9263c88e1b", func := "loop.example/charterrules/laws.FnFirstVoid", spec := "fnFirstVoid", recurses := true, apart := false, narrowed := true }
def FnFirstVoidUptoSaid : Prop := fnFirstVoidUptoRow.holds Try.pinned (OpenSpec.upto fnFirstVoidSpec)

/-- 'laws.FnEitherOrder', WHERE WHAT IT READS IS OF BULK AT MOST 1048576: true; the input reads as it did. -/
def fnEitherOrderUptoRow : OpenClaim := { program := "ytojoblllgddckaa", sum := "5abc6344b4888255e7bbad1a36fa2a8a0db5e0b97bfdaa4f17c3ac9263c88e1b", func := "loop.example/charterrules/laws.FnEitherOrder", spec := "fnEitherOrder", unfollowed := true, recurses := true, apart := false, narrowed := true }
def FnEitherOrderUptoSaid : Prop := fnEitherOrderUptoRow.holds Try.pinned (OpenSpec.upto fnEitherOrderSpec)

/-- 'laws.FnValidActs', WHERE WHAT IT READS IS OF BULK AT MOST 1048576: true; the input reads as it did. -/
def fnValidActsUptoRow : OpenClaim := { program := "ytojoblllgddckaa", sum := "5abc6344b4888255e7bbad1a36fa2a8a0db5e0b97bfdaa4f17c3ac9263c88e1b", func := "loop.example/charterrules/laws.FnValidActs", spec := "fnValidActs", recurses := true, apart := false, narrowed := true }
def FnValidActsUptoSaid : Prop := fnValidActsUptoRow.holds Try.pinned (OpenSpec.upto fnValidActsSpec)

/-- 'laws.FnSafeActs', WHERE WHAT IT READS IS OF BULK AT MOST 1048576: true; the input reads as it did. -/
def fnSafeActsUptoRow : OpenClaim := { program := "ytojoblllgddckaa", sum := "5abc6344b4888255e7bbad1a36fa2a8a0db5e0b97bfdaa4f17c3ac9263c88e1b", func := "loop.example/charterrules/laws.FnSafeActs", spec := "fnSafeActs", unfollowed := true, recurses := true, apart := false, narrowed := true }
def FnSafeActsUptoSaid : Prop := fnSafeActsUptoRow.holds Try.pinned (OpenSpec.upto fnSafeActsSpec)

end Rows
end Go.Proofs.Ytojoblllgddckaa

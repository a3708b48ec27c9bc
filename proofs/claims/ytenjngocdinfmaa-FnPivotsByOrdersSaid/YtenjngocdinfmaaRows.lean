/-
  No cell of these rows narrows 'for every input' (looked for: loops, veiled, ifaces, maps, wideKeys, modest, calm, conditions, laid).
  DERIVED. THE GIVEN ROWS OF THIS SEAT. 3 by the template 'for every input the law returns true; each argument reads behind the call as it read before'; 0 by the template 'total and deterministic' (their statements: YtenjngocdinfmaaTotals.lean).
  GIVEN WITH THE SEED: the statements are not yours to turn. If you find one false, say at which input.
  Laid BY PROGRAM, IN A SANDBOX (cutbox-rows.mjs): the forced cells as the released guide's own fill.sh prints them over the translation 3c57c3d896bcb407… (all of the seat's roots in one cut). By AI agents, Wed Nov 11 2026. No macro, syntax, notation, axiom, sorry.
-/
import Derived.Test.YtenjngocdinfmaaChecked
import GoSem.Claim
import GoSem.ClaimJoined
import GoSem.ClaimMapViews
import Derived.JoinedTies
import Derived.KernelRfl
namespace Go.Proofs.Ytenjngocdinfmaa
/- THE CELL 'sum', in the pinned program and in every row, IS THE sha256 OF THE DUMP (.gsa) THAT YtenjngocdinfmaaProg.lean LOADS. Nothing in Lean hashes anything: it is a label: what it is worth is what the hold of that sum in a sandbox is worth. -/
noncomputable def Try.pinned : Pinned := { name := "ytenjngocdinfmaa", sum := "3c57c3d896bcb407ea57c8a36254e3ccda3f1bf98cc4d85bc35298ad9175bb91", checked := Try.checked }
namespace Rows
def none {H : Type} : Left H := { results := [], args := [] }

/-- 'laws.FnPivotsByOrders': WHATEVER THE INPUT: true; the input reads as it did. -/
def fnPivotsByOrdersSpec : ChangeSpec := { name := "fnPivotsByOrders", fn := fun _ => fun
  | [d] => { results := [.lit (.bool true)], args := [d] }
  | _ => none }
def fnPivotsByOrdersRow : OpenClaim := { program := "ytenjngocdinfmaa", sum := "3c57c3d896bcb407ea57c8a36254e3ccda3f1bf98cc4d85bc35298ad9175bb91", func := "loop.example/charterrules/laws.FnPivotsByOrders", spec := "fnPivotsByOrders", apart := false }
def FnPivotsByOrdersSaid : Prop := fnPivotsByOrdersRow.holds Try.pinned (OpenSpec.ofChange fnPivotsByOrdersSpec)

/-- ITS FALSE NEIGHBOUR: 'it returns false'. Refute it at one input. -/
def fnPivotsByOrdersWrong : ChangeSpec := { name := "fnPivotsByOrders", fn := fun _ => fun
  | [d] => { results := [.lit (.bool false)], args := [d] }
  | _ => none }
def FnPivotsByOrdersWrongFalsely : Prop := fnPivotsByOrdersRow.holds Try.pinned (OpenSpec.ofChange fnPivotsByOrdersWrong)

/-- 'laws.FnSameMembers': WHATEVER THE INPUT: true; the input reads as it did. -/
def fnSameMembersSpec : ChangeSpec := { name := "fnSameMembers", fn := fun _ => fun
  | [d] => { results := [.lit (.bool true)], args := [d] }
  | _ => none }
def fnSameMembersRow : OpenClaim := { program := "ytenjngocdinfmaa", sum := "3c57c3d896bcb407ea57c8a36254e3ccda3f1bf98cc4d85bc35298ad9175bb91", func := "loop.example/charterrules/laws.FnSameMembers", spec := "fnSameMembers", apart := false }
def FnSameMembersSaid : Prop := fnSameMembersRow.holds Try.pinned (OpenSpec.ofChange fnSameMembersSpec)

/-- ITS FALSE NEIGHBOUR: 'it returns false'. Refute it at one input. -/
def fnSameMembersWrong : ChangeSpec := { name := "fnSameMembers", fn := fun _ => fun
  | [d] => { results := [.lit (.bool false)], args := [d] }
  | _ => none }
def FnSameMembersWrongFalsely : Prop := fnSameMembersRow.holds Try.pinned (OpenSpec.ofChange fnSameMembersWrong)

/-- 'laws.FnTrustConsent': WHATEVER THE INPUT: true; the input reads as it did. -/
def fnTrustConsentSpec : ChangeSpec := { name := "fnTrustConsent", fn := fun _ => fun
  | [d1, d2] => { results := [.lit (.bool true)], args := [d1, d2] }
  | _ => none }
def fnTrustConsentRow : OpenClaim := { program := "ytenjngocdinfmaa", sum := "3c57c3d896bcb407ea57c8a36254e3ccda3f1bf98cc4d85bc35298ad9175bb91", func := "loop.example/charterrules/laws.FnTrustConsent", spec := "fnTrustConsent", apart := false }
def FnTrustConsentSaid : Prop := fnTrustConsentRow.holds Try.pinned (OpenSpec.ofChange fnTrustConsentSpec)

/-- ITS FALSE NEIGHBOUR: 'it returns false'. Refute it at one input. -/
def fnTrustConsentWrong : ChangeSpec := { name := "fnTrustConsent", fn := fun _ => fun
  | [d1, d2] => { results := [.lit (.bool false)], args := [d1, d2] }
  | _ => none }
def FnTrustConsentWrongFalsely : Prop := fnTrustConsentRow.holds Try.pinned (OpenSpec.ofChange fnTrustConsentWrong)

/- THE SECOND FORM. 'bulk': how many values and letters a reading holds, each counted each time it is reached (what is shared counts as often as it is met; a slice's spare places count too). A statement '..UptoSaid' is the law's where the arguments, and the package variables that the reading takes, are together of bulk at most 1048576: NARROWER than '..Said'. Prove '..Said' where nothing that the law and all that it calls make is longer than what came in: it says more and counts as full. Else prove '..UptoSaid'. A law counts once. -/
mutual
def uptoBulk {H : Type} : DataW H → Nat
  | .lit (.string bytes) => bytes.length + 1
  | .lit _ => 1
  | .nil => 1
  | .ptr d => uptoBulk d + 1
  | .slice elems spare => uptoBulkAll elems + uptoBulkAll spare + 1
  | .agg parts => uptoBulkAll parts + 1
  | .iface _ d => uptoBulk d + 1
  | .map entries => uptoBulkEntries entries + 1
  | .held _ => 1
def uptoBulkAll {H : Type} : List (DataW H) → Nat
  | [] => 0
  | d :: r => uptoBulk d + uptoBulkAll r
def uptoBulkEntries {H : Type} : List (Lit × DataW H) → Nat
  | [] => 0
  | x :: r => uptoBulkEntry x + uptoBulkEntries r
def uptoBulkEntry {H : Type} : Lit × DataW H → Nat
  | (.string bytes, d) => bytes.length + uptoBulk d + 1
  | (_, d) => uptoBulk d + 1
 end
def uptoSmall : (H : Type) → List (DataW H) → Bool := fun _ ds => decide (uptoBulkAll ds ≤ 1048576)
def OpenSpec.upto (s : _root_.Go.ChangeSpec) : _root_.Go.OpenSpec := { _root_.Go.OpenSpec.ofChange s with cond := some uptoSmall }

/-- 'laws.FnPivotsByOrders', WHERE WHAT IT READS IS OF BULK AT MOST 1048576: true; the input reads as it did. -/
def fnPivotsByOrdersUptoRow : OpenClaim := { program := "ytenjngocdinfmaa", sum := "3c57c3d896bcb407ea57c8a36254e3ccda3f1bf98cc4d85bc35298ad9175bb91", func := "loop.example/charterrules/laws.FnPivotsByOrders", spec := "fnPivotsByOrders", apart := false, narrowed := true }
def FnPivotsByOrdersUptoSaid : Prop := fnPivotsByOrdersUptoRow.holds Try.pinned (OpenSpec.upto fnPivotsByOrdersSpec)

/-- 'laws.FnSameMembers', WHERE WHAT IT READS IS OF BULK AT MOST 1048576: true; the input reads as it did. -/
def fnSameMembersUptoRow : OpenClaim := { program := "ytenjngocdinfmaa", sum := "3c57c3d896bcb407ea57c8a36254e3ccda3f1bf98cc4d85bc35298ad9175bb91", func := "loop.example/charterrules/laws.FnSameMembers", spec := "fnSameMembers", apart := false, narrowed := true }
def FnSameMembersUptoSaid : Prop := fnSameMembersUptoRow.holds Try.pinned (OpenSpec.upto fnSameMembersSpec)

/-- 'laws.FnTrustConsent', WHERE WHAT IT READS IS OF BULK AT MOST 1048576: true; the input reads as it did. -/
def fnTrustConsentUptoRow : OpenClaim := { program := "ytenjngocdinfmaa", sum := "3c57c3d896bcb407ea57c8a36254e3ccda3f1bf98cc4d85bc35298ad9175bb91", func := "loop.example/charterrules/laws.FnTrustConsent", spec := "fnTrustConsent", apart := false, narrowed := true }
def FnTrustConsentUptoSaid : Prop := fnTrustConsentUptoRow.holds Try.pinned (OpenSpec.upto fnTrustConsentSpec)

end Rows
end Go.Proofs.Ytenjngocdinfmaa

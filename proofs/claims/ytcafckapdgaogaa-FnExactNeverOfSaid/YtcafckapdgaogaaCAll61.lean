/- Walks by hand of functions that some laws of this seat reach: leastOf. -/
import Derived.Test.YtcafckapdgaogaaCAll58
import Derived.Test.YtcafckapdgaogaaCAll43
import Derived.Shelf.Abstract
import Derived.Shelf.SlLaysM
import Derived.Shelf.SlLaysN
import Derived.Shelf.SortM.Plain
import Derived.Shelf.SortM.SortNone
import Derived.Shelf.SlicesG.CompactI
import Derived.Sort.OwnSortedInts
import Derived.Lib.OwnBridge
namespace Go.Proofs.Ytcafckapdgaogaa.PAll
open Go.RowKit Go.Proofs.YtcafckapdgaogaaW.PrintWords Go.Proofs.YtcafckapdgaogaaW.PrintLast Go.Proofs.YtcafckapdgaogaaW.PrintMore
set_option linter.unusedVariables false
set_option linter.unusedSimpArgs false

/-! ### impl_leastOf: function 97 -/
/-! the least crowds -/
def sortRen : Go.Shelf.Ren := ⟨fun | 5 => 95 | 8 => 122 | 7 => 121 | 19 => 145 | 20 => 146 | 10 => 136 | 11 => 137 | 12 => 138 | 13 => 139 | 14 => 140 | 15 => 141 | 16 => 142 | 17 => 143 | 18 => 144 | 30 => 155 | 31 => 156 | 32 => 157 | 33 => 158 | 34 => 159 | 35 => 160 | 40 => 165 | n => n, fun | 23 => 22 | 25 => 3 | 3 => 3 | 32 => 124 | 22 => 22 | 0 => 0 | 44 => 145 | 46 => 147 | 4 => 4 | 36 => 139 | 35 => 138 | 41 => 96 | 5 => 5 | 9 => 9 | 53 => 153 | 57 => 157 | 63 => 162 | 64 => 163 | n => n, fun | n => n⟩
theorem sortLay : SlLaysM.n5 Try.prog sortRen where
  mixed := by kernel_rfl
  f5 := ⟨Try.f95.name, by decide, Try.func95.trans (congrArg some (by kernel_rfl))⟩
  f7 := ⟨Try.f121.name, by decide, Try.func121.trans (congrArg some (by kernel_rfl))⟩
  f8 := Try.func122.trans (congrArg some (by kernel_rfl))
  f10 := ⟨Try.f136.name, by decide, Try.func136.trans (congrArg some (by kernel_rfl))⟩
  f11 := ⟨Try.f137.name, by decide, Try.func137.trans (congrArg some (by kernel_rfl))⟩
  f12 := ⟨Try.f138.name, by decide, Try.func138.trans (congrArg some (by kernel_rfl))⟩
  f13 := ⟨Try.f139.name, by decide, Try.func139.trans (congrArg some (by kernel_rfl))⟩
  f14 := ⟨Try.f140.name, by decide, Try.func140.trans (congrArg some (by kernel_rfl))⟩
  f15 := ⟨Try.f141.name, by decide, Try.func141.trans (congrArg some (by kernel_rfl))⟩
  f16 := ⟨Try.f142.name, by decide, Try.func142.trans (congrArg some (by kernel_rfl))⟩
  f17 := ⟨Try.f143.name, by decide, Try.func143.trans (congrArg some (by kernel_rfl))⟩
  f18 := ⟨Try.f144.name, by decide, Try.func144.trans (congrArg some (by kernel_rfl))⟩
  f19 := Try.func145.trans (congrArg some (by kernel_rfl))
  f20 := Try.func146.trans (congrArg some (by kernel_rfl))
  f30 := ⟨Try.f155.name, by decide, Try.func155.trans (congrArg some (by kernel_rfl))⟩
  f31 := Try.func156.trans (congrArg some (by kernel_rfl))
  f32 := Try.func157.trans (congrArg some (by kernel_rfl))
  f33 := ⟨Try.f158.name, by decide, Try.func158.trans (congrArg some (by kernel_rfl))⟩
  f34 := ⟨Try.f159.name, by decide, Try.func159.trans (congrArg some (by kernel_rfl))⟩
  f35 := ⟨Try.f160.name, by decide, Try.func160.trans (congrArg some (by kernel_rfl))⟩
  f40 := ⟨Try.f165.name, by decide, Try.func165.trans (congrArg some (by kernel_rfl))⟩
  t0 := Try.underlying0
  a0 := Try.isAgg0
  z0 := Try.sizeOf0
  v0 := Try.zeroValue0
  t3 := Try.underlying3
  a3 := Try.isAgg3
  z3 := Try.sizeOf3
  v3 := Try.zeroValue3
  t4 := Try.underlying4
  a4 := Try.isAgg4
  z4 := Try.sizeOf4
  v4 := Try.zeroValue4
  t5 := Try.underlying5
  a5 := Try.isAgg5
  z5 := Try.sizeOf5
  v5 := Try.zeroValue5
  t9 := Try.underlying9
  a9 := Try.isAgg9
  z9 := Try.sizeOf9
  v9 := Try.zeroValue9
  t22 := Try.underlying22
  a22 := Try.isAgg22
  z22 := Try.sizeOf22
  v22 := Try.zeroValue22
  t23 := Try.underlying22
  a23 := Try.isAgg22
  z23 := Try.sizeOf22
  v23 := Try.zeroValue22
  t25 := Try.underlying3
  a25 := Try.isAgg3
  z25 := Try.sizeOf3
  v25 := Try.zeroValue3
  t32 := Try.underlying124
  a32 := Try.isAgg124
  z32 := Try.sizeOf124
  v32 := Try.zeroValue124
  t35 := Try.underlying138
  a35 := Try.isAgg138
  z35 := Try.sizeOf138
  v35 := Try.zeroValue138
  t36 := Try.underlying139
  a36 := Try.isAgg139
  z36 := Try.sizeOf139
  v36 := Try.zeroValue139
  t41 := Try.underlying96
  a41 := Try.isAgg96
  z41 := Try.sizeOf96
  v41 := Try.zeroValue96
  t44 := Try.underlying145
  a44 := Try.isAgg145
  z44 := Try.sizeOf145
  v44 := Try.zeroValue145
  t46 := Try.underlying147
  a46 := Try.isAgg147
  z46 := Try.sizeOf147
  v46 := Try.zeroValue147
  t53 := Try.underlying153
  a53 := Try.isAgg153
  z53 := Try.sizeOf153
  v53 := Try.zeroValue153
  t57 := Try.underlying157
  a57 := Try.isAgg157
  z57 := Try.sizeOf157
  v57 := Try.zeroValue157
  t63 := Try.underlying162
  a63 := Try.isAgg162
  z63 := Try.sizeOf162
  v63 := Try.zeroValue162
  t64 := Try.underlying163
  a64 := Try.isAgg163
  z64 := Try.sizeOf163
  v64 := Try.zeroValue163
section
open Go.Shelf Go.Sort
end
/-- The crowds below n of which something is so. -/
def crowdsOf (so : Int → Bool) : Nat → List Int
  | 0 => []
  | m + 1 => if so (m : Int) = true then crowdsOf so m ++ [(m : Int)] else crowdsOf so m
theorem crowdsOf_mem (so : Int → Bool) : ∀ n, ∀ x ∈ crowdsOf so n, 0 ≤ x ∧ x < (n : Int)
  | 0 => fun x hx => by cases hx
  | m + 1 => fun x hx => by
    rw [crowdsOf] at hx
    split at hx
    · rcases List.mem_append.mp hx with hx | hx
      · have := crowdsOf_mem so m x hx; omega
      · simp only [List.mem_singleton] at hx; omega
    · have := crowdsOf_mem so m x hx; omega
theorem crowdsOf_asc (so : Int → Bool) : ∀ n, (crowdsOf so n).Pairwise (· < ·)
  | 0 => List.Pairwise.nil
  | m + 1 => by
    rw [crowdsOf]
    split
    · refine List.pairwise_append.mpr ⟨crowdsOf_asc so m, by simp, fun a ha b hb => ?_⟩
      simp only [List.mem_singleton] at hb
      have := crowdsOf_mem so m a ha; omega
    · exact crowdsOf_asc so m
theorem crowdsOf_len (so : Int → Bool) : ∀ n, (crowdsOf so n).length ≤ n
  | 0 => Nat.le_refl _
  | m + 1 => by
    have := crowdsOf_len so m
    rw [crowdsOf]
    split
    · simp; omega
    · omega
/-- Three boxes that lie: a charter, a row and a row. -/
structure Bx3 (w W : World) (gb gf gt : Nat) (ca : Array Value) (vf vt : Value) : Prop where
  b : Below w.heap.size w W
  c : W.heap[gb]? = some (.cells ca 35 (0, 0))
  f : W.heap[gf]? = some (.cells #[vf] 22 (0, 0))
  t : W.heap[gt]? = some (.cells #[vt] 22 (0, 0))
end Go.Proofs.Ytcafckapdgaogaa.PAll

/- Walks by hand of functions that some laws of this seat reach: leastOf. -/
import Derived.Test.YtkogboechfieeaaCAll71
import Derived.Shelf.Abstract
import Derived.Shelf.SlLaysM
import Derived.Shelf.SlLaysN
import Derived.Shelf.SortM.Plain
import Derived.Shelf.SortM.SortNone
import Derived.Shelf.SlicesG.CompactI
import Derived.Sort.OwnSortedInts
import Derived.Lib.OwnBridge
namespace Go.Proofs.Ytkogboechfieeaa.PAll
open Go.RowKit Go.Proofs.YtkogboechfieeaaW.PrintWords Go.Proofs.YtkogboechfieeaaW.PrintLast Go.Proofs.YtkogboechfieeaaW.PrintMore
set_option linter.unusedVariables false
set_option linter.unusedSimpArgs false

/-! ### impl_leastOf: function 0 -/
/-! the least crowds -/
def sortRen : Go.Shelf.Ren := ⟨fun | 5 => 87 | 8 => 105 | 7 => 104 | 19 => 127 | 20 => 128 | 10 => 118 | 11 => 119 | 12 => 120 | 13 => 121 | 14 => 122 | 15 => 123 | 16 => 124 | 17 => 125 | 18 => 126 | 30 => 131 | 31 => 132 | 32 => 133 | 33 => 134 | 34 => 135 | 35 => 136 | 40 => 139 | n => n, fun | 23 => 23 | 25 => 3 | 3 => 3 | 32 => 107 | 22 => 23 | 0 => 0 | 44 => 123 | 46 => 125 | 4 => 4 | 36 => 117 | 35 => 116 | 41 => 82 | 5 => 5 | 9 => 9 | 53 => 127 | 57 => 131 | 63 => 133 | 64 => 134 | n => n, fun | n => n⟩
theorem sortLay : SlLaysM.n5 Try.prog sortRen where
  mixed := by kernel_rfl
  f5 := ⟨Try.f87.name, by decide, Try.func87.trans (congrArg some (by kernel_rfl))⟩
  f7 := ⟨Try.f104.name, by decide, Try.func104.trans (congrArg some (by kernel_rfl))⟩
  f8 := Try.func105.trans (congrArg some (by kernel_rfl))
  f10 := ⟨Try.f118.name, by decide, Try.func118.trans (congrArg some (by kernel_rfl))⟩
  f11 := ⟨Try.f119.name, by decide, Try.func119.trans (congrArg some (by kernel_rfl))⟩
  f12 := ⟨Try.f120.name, by decide, Try.func120.trans (congrArg some (by kernel_rfl))⟩
  f13 := ⟨Try.f121.name, by decide, Try.func121.trans (congrArg some (by kernel_rfl))⟩
  f14 := ⟨Try.f122.name, by decide, Try.func122.trans (congrArg some (by kernel_rfl))⟩
  f15 := ⟨Try.f123.name, by decide, Try.func123.trans (congrArg some (by kernel_rfl))⟩
  f16 := ⟨Try.f124.name, by decide, Try.func124.trans (congrArg some (by kernel_rfl))⟩
  f17 := ⟨Try.f125.name, by decide, Try.func125.trans (congrArg some (by kernel_rfl))⟩
  f18 := ⟨Try.f126.name, by decide, Try.func126.trans (congrArg some (by kernel_rfl))⟩
  f19 := Try.func127.trans (congrArg some (by kernel_rfl))
  f20 := Try.func128.trans (congrArg some (by kernel_rfl))
  f30 := ⟨Try.f131.name, by decide, Try.func131.trans (congrArg some (by kernel_rfl))⟩
  f31 := Try.func132.trans (congrArg some (by kernel_rfl))
  f32 := Try.func133.trans (congrArg some (by kernel_rfl))
  f33 := ⟨Try.f134.name, by decide, Try.func134.trans (congrArg some (by kernel_rfl))⟩
  f34 := ⟨Try.f135.name, by decide, Try.func135.trans (congrArg some (by kernel_rfl))⟩
  f35 := ⟨Try.f136.name, by decide, Try.func136.trans (congrArg some (by kernel_rfl))⟩
  f40 := ⟨Try.f139.name, by decide, Try.func139.trans (congrArg some (by kernel_rfl))⟩
  t0 := Try.underlying0
  a0 := Try.isAgg0
  z0 := Try.sizeOf0
  v0 := Try.zeroValue0
  t3 := Try.underlying3
  a3 := Try.isAgg3
  z3 := Try.sizeOf3
  v3 := Try.zeroValue3
  t4 := Try.underlying4
  a4 := Try.isAgg4
  z4 := Try.sizeOf4
  v4 := Try.zeroValue4
  t5 := Try.underlying5
  a5 := Try.isAgg5
  z5 := Try.sizeOf5
  v5 := Try.zeroValue5
  t9 := Try.underlying9
  a9 := Try.isAgg9
  z9 := Try.sizeOf9
  v9 := Try.zeroValue9
  t22 := Try.underlying23
  a22 := Try.isAgg23
  z22 := Try.sizeOf23
  v22 := Try.zeroValue23
  t23 := Try.underlying23
  a23 := Try.isAgg23
  z23 := Try.sizeOf23
  v23 := Try.zeroValue23
  t25 := Try.underlying3
  a25 := Try.isAgg3
  z25 := Try.sizeOf3
  v25 := Try.zeroValue3
  t32 := Try.underlying107
  a32 := Try.isAgg107
  z32 := Try.sizeOf107
  v32 := Try.zeroValue107
  t35 := Try.underlying116
  a35 := Try.isAgg116
  z35 := Try.sizeOf116
  v35 := Try.zeroValue116
  t36 := Try.underlying117
  a36 := Try.isAgg117
  z36 := Try.sizeOf117
  v36 := Try.zeroValue117
  t41 := Try.underlying82
  a41 := Try.isAgg82
  z41 := Try.sizeOf82
  v41 := Try.zeroValue82
  t44 := Try.underlying123
  a44 := Try.isAgg123
  z44 := Try.sizeOf123
  v44 := Try.zeroValue123
  t46 := Try.underlying125
  a46 := Try.isAgg125
  z46 := Try.sizeOf125
  v46 := Try.zeroValue125
  t53 := Try.underlying127
  a53 := Try.isAgg127
  z53 := Try.sizeOf127
  v53 := Try.zeroValue127
  t57 := Try.underlying131
  a57 := Try.isAgg131
  z57 := Try.sizeOf131
  v57 := Try.zeroValue131
  t63 := Try.underlying133
  a63 := Try.isAgg133
  z63 := Try.sizeOf133
  v63 := Try.zeroValue133
  t64 := Try.underlying134
  a64 := Try.isAgg134
  z64 := Try.sizeOf134
  v64 := Try.zeroValue134
section
open Go.Shelf Go.Sort
end

/-- The crowds below n of which something is so. -/
def crowdsOf (so : Int → Bool) : Nat → List Int
  | 0 => []
  | m + 1 => if so (m : Int) = true then crowdsOf so m ++ [(m : Int)] else crowdsOf so m
theorem crowdsOf_mem (so : Int → Bool) : ∀ n, ∀ x ∈ crowdsOf so n, 0 ≤ x ∧ x < (n : Int)
  | 0 => fun x hx => by cases hx
  | m + 1 => fun x hx => by
    rw [crowdsOf] at hx
    split at hx
    · rcases List.mem_append.mp hx with hx | hx
      · have := crowdsOf_mem so m x hx; omega
      · simp only [List.mem_singleton] at hx; omega
    · have := crowdsOf_mem so m x hx; omega
theorem crowdsOf_asc (so : Int → Bool) : ∀ n, (crowdsOf so n).Pairwise (· < ·)
  | 0 => List.Pairwise.nil
  | m + 1 => by
    rw [crowdsOf]
    split
    · refine List.pairwise_append.mpr ⟨crowdsOf_asc so m, by simp, fun a ha b hb => ?_⟩
      simp only [List.mem_singleton] at hb
      have := crowdsOf_mem so m a ha; omega
    · exact crowdsOf_asc so m
theorem crowdsOf_len (so : Int → Bool) : ∀ n, (crowdsOf so n).length ≤ n
  | 0 => Nat.le_refl _
  | m + 1 => by
    have := crowdsOf_len so m
    rw [crowdsOf]
    split
    · simp; omega
    · omega
/-- Three boxes that lie: a charter, a row and a row. -/
structure Bx3 (w W : World) (gb gf gt : Nat) (ca : Array Value) (vf vt : Value) : Prop where
  b : Below w.heap.size w W
  c : W.heap[gb]? = some (.cells ca 28 (0, 0))
  f : W.heap[gf]? = some (.cells #[vf] 23 (0, 0))
  t : W.heap[gt]? = some (.cells #[vt] 23 (0, 0))
end Go.Proofs.Ytkogboechfieeaa.PAll

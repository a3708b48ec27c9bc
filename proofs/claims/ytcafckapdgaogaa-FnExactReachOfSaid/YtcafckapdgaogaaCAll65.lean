/- Walks by hand of functions that some laws of this seat reach: numbersOf. -/
import Derived.Test.YtcafckapdgaogaaCAll61
import Derived.Test.YtcafckapdgaogaaV2
import Derived.Test.YtcafckapdgaogaaZ
import Derived.Shelf.Abstract
import Derived.Maps.OwnSet
import Derived.Shelf.SlIterI.Nil
namespace Go.Proofs.Ytcafckapdgaogaa.PAll
open Go.RowKit Go.Proofs.YtcafckapdgaogaaW.PrintWords Go.Proofs.YtcafckapdgaogaaW.PrintLast Go.Proofs.YtcafckapdgaogaaW.PrintMore
set_option linter.unusedVariables false
set_option linter.unusedSimpArgs false

/-! ### impl_numbersOf: function 89 -/
def keysRen : Go.Shelf.Ren := ⟨fun | 7 => 119 | 10 => 135 | n => n, fun | 23 => 97 | 26 => 3 | 3 => 3 | 28 => 120 | 0 => 0 | 27 => 119 | 33 => 107 | 4 => 4 | n => n, fun | n => n⟩
theorem keysLay : SlLaysZI.n7 Try.prog keysRen where
  mixed := by kernel_rfl
  f7 := ⟨Try.f119.name, by decide, Try.func119.trans (congrArg some (by kernel_rfl))⟩
  f10 := ⟨Try.f135.name, by decide, Try.func135.trans (congrArg some (by kernel_rfl))⟩
  t0 := Try.underlying0
  a0 := Try.isAgg0
  z0 := Try.sizeOf0
  v0 := Try.zeroValue0
  t4 := Try.underlying4
  a4 := Try.isAgg4
  z4 := Try.sizeOf4
  v4 := Try.zeroValue4
  t23 := Try.underlying97
  a23 := Try.isAgg97
  z23 := Try.sizeOf97
  v23 := Try.zeroValue97
  t26 := Try.underlying3
  a26 := Try.isAgg3
  z26 := Try.sizeOf3
  v26 := Try.zeroValue3
  t27 := Try.underlying119
  a27 := Try.isAgg119
  z27 := Try.sizeOf119
  v27 := Try.zeroValue119
  t28 := Try.underlying120
  a28 := Try.isAgg120
  z28 := Try.sizeOf120
  v28 := Try.zeroValue120
  t33 := Try.underlying107
  a33 := Try.isAgg107
  z33 := Try.sizeOf107
  v33 := Try.zeroValue107
def sortedRen : Go.Shelf.Ren := ⟨fun | 6 => 118 | 8 => 134 | 9 => 95 | 11 => 154 | 13 => 122 | 12 => 121 | 23 => 145 | 24 => 146 | 14 => 136 | 15 => 137 | 16 => 138 | 17 => 139 | 18 => 140 | 19 => 141 | 20 => 142 | 21 => 143 | 22 => 144 | 25 => 155 | 26 => 156 | 27 => 157 | 28 => 158 | 29 => 159 | 30 => 160 | 31 => 165 | n => n, fun | 26 => 3 | 28 => 120 | 24 => 22 | 0 => 0 | 3 => 3 | 37 => 124 | 48 => 145 | 50 => 147 | 4 => 4 | 40 => 139 | 39 => 138 | 45 => 96 | 5 => 5 | 9 => 9 | 51 => 153 | 55 => 157 | 57 => 162 | 58 => 163 | 33 => 107 | n => n, fun | n => n⟩
theorem sortedLay : SlLaysZI.n6 Try.prog sortedRen where
  mixed := by kernel_rfl
  f6 := ⟨Try.f118.name, by decide, Try.func118.trans (congrArg some (by kernel_rfl))⟩
  f8 := ⟨Try.f134.name, by decide, Try.func134.trans (congrArg some (by kernel_rfl))⟩
  f11 := ⟨Try.f154.name, by decide, Try.func154.trans (congrArg some (by kernel_rfl))⟩
  t0 := Try.underlying0
  a0 := Try.isAgg0
  z0 := Try.sizeOf0
  v0 := Try.zeroValue0
  t24 := Try.underlying22
  a24 := Try.isAgg22
  z24 := Try.sizeOf22
  v24 := Try.zeroValue22
  t26 := Try.underlying3
  a26 := Try.isAgg3
  z26 := Try.sizeOf3
  v26 := Try.zeroValue3
  t28 := Try.underlying120
  a28 := Try.isAgg120
  z28 := Try.sizeOf120
  v28 := Try.zeroValue120
  i26 := by kernel_rfl
/-! the numbers of a map, in ascending order -/
theorem ins_perm {H : Type} (x : Lit × DataW H) : ∀ es, (DataW.insert x es).Perm (x :: es)
  | [] => by simp [DataW.insert]
  | y :: r => by
    rw [DataW.insert]
    split
    · exact List.Perm.refl _
    · exact (List.Perm.cons y (ins_perm x r)).trans (List.Perm.swap x y r)
theorem keys_perm : ∀ D : List (Int × Int), (D.map (·.1)).Nodup → (intKeys (mapD D)).Perm (D.map (·.1)) ∧ Maps.size (mapD D) = D.length
  | [], _ => ⟨List.Perm.refl _, rfl⟩
  | (k, d) :: r, h => by
    rw [List.map_cons, List.nodup_cons] at h
    obtain ⟨ih1, ih2⟩ := keys_perm r h.2
    have hno : mhas k r = false := by
      unfold mhas
      rw [List.any_eq_false]
      intro p hp e
      exact h.1 (List.mem_map.mpr ⟨p, hp, by simpa using e⟩)
    rw [← mapD_has] at hno
    obtain ⟨es, he⟩ := mapD_isMap r
    rw [he] at ih1 ih2 hno
    have hf : es.filter (fun p => !p.1.sameKey (.int .i64 k)) = es := List.filter_eq_self.mpr (fun p hp => by
      have := List.any_eq_false.mp hno p hp
      simpa using this)
    have e : mapD ((k, d) :: r) = .map (DataW.insert (.int .i64 k, .lit (.int .i64 d)) es) := by
      rw [mapD, he]; show DataW.map _ = _; rw [hf]
    have hp := ins_perm (H := Unit) (.int .i64 k, .lit (.int .i64 d)) es
    rw [e]
    refine ⟨(hp.map _).trans (List.Perm.cons k ih1), ?_⟩
    show (DataW.insert _ es).length = _
    rw [hp.length_eq, List.length_cons, List.length_cons]
    exact congrArg (· + 1) ih2
def sortedKeys (D : List (Int × Int)) : List Int := (D.map (·.1)).mergeSort (fun x y => decide (x ≤ y))
section
open Go.Shelf Go.Sort
theorem sorts_in (m : Nat) : AnyZI.SortsIn Try.prog sortedRen Fence.wide m :=
  ⟨fun blk off cap ss W hH hblk hsz => callsIn_wide.2 (AnyM.slices_Sort_int sortLay blk off cap ss W hH hblk hsz), fun p cap W => callsIn_wide.2 (AnyM.slices_Sort_int_none sortLay p cap W)⟩
set_option maxHeartbeats 1000000 in
theorem numbersOf_any (w : World) (gm : Nat) (D : List (Int × Int)) (hown : MapAt w gm D) (hnd : (D.map (·.1)).Nodup) (hl : D.length ≤ 4096) :
    Calls Try.prog 89 #[.map (some gm)] w fun e w' => ∃ v, e = .returned v ∧ Kd.R (Kd.int .i64) 3 w' w.heap.size (fun _ => True) v (sortedKeys D) ∧ Below w.heap.size w w' := by
  obtain ⟨hkp, hsz⟩ := keys_perm D hnd
  refine (callsIn_wide (n := 6)).1 ?_
  have hbl := World.ownsMap.lt hown
  have hseq : SeqGives Fence.wide 2 Try.prog 135 #[.pointer (some ⟨w.heap.size, 0, none⟩)] encZ (fun ss => ss.Perm (intKeys (mapD D))) (Maps.size (mapD D)) (w.alloc (.cells #[.map (some gm)] 97)) :=
    AnyZI.keys_gives (ρ := keysRen) { keysLay with } Fence.wide _ trivial rfl (by omega) w.heap.size gm D.length (mapD D) _ (by simp) (by simp) (by
      obtain ⟨es, clock, hb, Ft, hs, hD⟩ := hown
      exact ⟨es, clock, (Below.heap_alloc _ _ gm hbl).trans hb, Ft, hs, hD⟩)
  have cK : ∀ mb W, CallsIn Fence.wide 5 Try.prog 119 #[.map mb] W fun e w' => e = .returned (.func (.func 135) #[] #[.pointer (some ⟨W.heap.size, 0, none⟩)]) ∧ w' = W.alloc (.cells #[.map mb] 97) := fun mb W => AnyZI.keys_in keysLay Fence.wide 5 trivial rfl mb W
  have cS := AnyZI.sorted_in sortedLay Fence.wide 5 trivial trivial trivial trivial rfl (by omega) (sorts_in _) (enters_of Try.func95 (by kernel_rfl) rfl) 135 #[.pointer (some ⟨w.heap.size, 0, none⟩)] trivial (enters_of Try.func135 (by kernel_rfl) rfl) _ _ (by rw [hsz]; simp only [maxLen]; omega) (by rw [hsz]; omega) _ hseq
  change CallsIn _ _ Try.prog 118 _ _ _ at cS
  have hfK : Fence.wide.fn 119 := trivial
  have hfS : Fence.wide.fn 118 := trivial
  refine callsIn_of_wp Try.func89 rfl trivial ?_ rfl
  simp only [Try.ntmps89, List.size_toArray, List.length_cons, List.length_nil, Nat.reduceAdd, Nat.reduceSub, Array.replicate_succ, Array.replicate_zero, List.push_toArray, List.append_toArray, List.nil_append, List.cons_append]
  gi_wp2_with (first
    | (gi_at_call 119; refine (cK _ _).mono ?_; rintro e w' ⟨rfl, rfl⟩)
    | (gi_at_call 118; refine cS.mono ?_; rintro e w' ⟨v, ss, rfl, hS, hrow, hnil, hb⟩))
  go_ret
  have e1 : ss.mergeSort (fun x y => decide (x ≤ y)) = sortedKeys D := mergeSort_of_perm_i (hS.trans hkp)
  rw [e1] at hrow
  have hlen : ss.length = (sortedKeys D).length := by rw [← e1, List.length_mergeSort]
  rw [hlen] at hrow
  exact ⟨v, rfl, Kd.R_of_own (ownsRow_base_a hrow (by simp)) (fun _ _ => trivial), ((Below.refl _ w).alloc (Nat.le_refl _) _).trans (hb.mono (by simp))⟩
end

end Go.Proofs.Ytcafckapdgaogaa.PAll

/- Walks by hand of functions that some laws of this seat reach: numbersOf. -/
import Derived.Test.YtkogboechfieeaaCAll73
import Derived.Shelf.Abstract
import Derived.Maps.OwnSet
import Derived.Shelf.SlIterI.Nil
namespace Go.Proofs.Ytkogboechfieeaa.PAll
open Go.RowKit Go.Proofs.YtkogboechfieeaaW.PrintWords Go.Proofs.YtkogboechfieeaaW.PrintLast Go.Proofs.YtkogboechfieeaaW.PrintMore
set_option linter.unusedVariables false
set_option linter.unusedSimpArgs false

/-! ### impl_numbersOf: function 0 -/
def keysRen : Go.Shelf.Ren := ⟨fun | 7 => 95 | 10 => 112 | n => n, fun | 23 => 75 | 26 => 3 | 3 => 3 | 28 => 98 | 0 => 0 | 27 => 97 | 33 => 79 | 4 => 4 | n => n, fun | n => n⟩
theorem keysLay : SlLaysZI.n7 Try.prog keysRen where
  mixed := by kernel_rfl
  f7 := ⟨Try.f95.name, by decide, Try.func95.trans (congrArg some (by kernel_rfl))⟩
  f10 := ⟨Try.f112.name, by decide, Try.func112.trans (congrArg some (by kernel_rfl))⟩
  t0 := Try.underlying0
  a0 := Try.isAgg0
  z0 := Try.sizeOf0
  v0 := Try.zeroValue0
  t4 := Try.underlying4
  a4 := Try.isAgg4
  z4 := Try.sizeOf4
  v4 := Try.zeroValue4
  t23 := Try.underlying75
  a23 := Try.isAgg75
  z23 := Try.sizeOf75
  v23 := Try.zeroValue75
  t26 := Try.underlying3
  a26 := Try.isAgg3
  z26 := Try.sizeOf3
  v26 := Try.zeroValue3
  t27 := Try.underlying97
  a27 := Try.isAgg97
  z27 := Try.sizeOf97
  v27 := Try.zeroValue97
  t28 := Try.underlying98
  a28 := Try.isAgg98
  z28 := Try.sizeOf98
  v28 := Try.zeroValue98
  t33 := Try.underlying79
  a33 := Try.isAgg79
  z33 := Try.sizeOf79
  v33 := Try.zeroValue79
def sortedRen : Go.Shelf.Ren := ⟨fun | 6 => 94 | 8 => 111 | 9 => 87 | 11 => 129 | 13 => 105 | 12 => 104 | 23 => 127 | 24 => 128 | 14 => 118 | 15 => 119 | 16 => 120 | 17 => 121 | 18 => 122 | 19 => 123 | 20 => 124 | 21 => 125 | 22 => 126 | 25 => 131 | 26 => 132 | 27 => 133 | 28 => 134 | 29 => 135 | 30 => 136 | 31 => 139 | n => n, fun | 26 => 3 | 28 => 98 | 24 => 23 | 0 => 0 | 3 => 3 | 37 => 107 | 48 => 123 | 50 => 125 | 4 => 4 | 40 => 117 | 39 => 116 | 45 => 82 | 5 => 5 | 9 => 9 | 51 => 127 | 55 => 131 | 57 => 133 | 58 => 134 | 33 => 79 | n => n, fun | n => n⟩
theorem sortedLay : SlLaysZI.n6 Try.prog sortedRen where
  mixed := by kernel_rfl
  f6 := ⟨Try.f94.name, by decide, Try.func94.trans (congrArg some (by kernel_rfl))⟩
  f8 := ⟨Try.f111.name, by decide, Try.func111.trans (congrArg some (by kernel_rfl))⟩
  f11 := ⟨Try.f129.name, by decide, Try.func129.trans (congrArg some (by kernel_rfl))⟩
  t0 := Try.underlying0
  a0 := Try.isAgg0
  z0 := Try.sizeOf0
  v0 := Try.zeroValue0
  t24 := Try.underlying23
  a24 := Try.isAgg23
  z24 := Try.sizeOf23
  v24 := Try.zeroValue23
  t26 := Try.underlying3
  a26 := Try.isAgg3
  z26 := Try.sizeOf3
  v26 := Try.zeroValue3
  t28 := Try.underlying98
  a28 := Try.isAgg98
  z28 := Try.sizeOf98
  v28 := Try.zeroValue98
  i26 := by kernel_rfl
/-! the numbers of a map, in ascending order -/
theorem ins_perm {H : Type} (x : Lit × DataW H) : ∀ es, (DataW.insert x es).Perm (x :: es)
  | [] => by simp [DataW.insert]
  | y :: r => by
    rw [DataW.insert]
    split
    · exact List.Perm.refl _
    · exact (List.Perm.cons y (ins_perm x r)).trans (List.Perm.swap x y r)
theorem keys_perm : ∀ D : List (Int × Int), (D.map (·.1)).Nodup → (intKeys (mapD D)).Perm (D.map (·.1)) ∧ Maps.size (mapD D) = D.length
  | [], _ => ⟨List.Perm.refl _, rfl⟩
  | (k, d) :: r, h => by
    rw [List.map_cons, List.nodup_cons] at h
    obtain ⟨ih1, ih2⟩ := keys_perm r h.2
    have hno : mhas k r = false := by
      unfold mhas
      rw [List.any_eq_false]
      intro p hp e
      exact h.1 (List.mem_map.mpr ⟨p, hp, by simpa using e⟩)
    rw [← mapD_has] at hno
    obtain ⟨es, he⟩ := mapD_isMap r
    rw [he] at ih1 ih2 hno
    have hf : es.filter (fun p => !p.1.sameKey (.int .i64 k)) = es := List.filter_eq_self.mpr (fun p hp => by
      have := List.any_eq_false.mp hno p hp
      simpa using this)
    have e : mapD ((k, d) :: r) = .map (DataW.insert (.int .i64 k, .lit (.int .i64 d)) es) := by
      rw [mapD, he]; show DataW.map _ = _; rw [hf]
    have hp := ins_perm (H := Unit) (.int .i64 k, .lit (.int .i64 d)) es
    rw [e]
    refine ⟨(hp.map _).trans (List.Perm.cons k ih1), ?_⟩
    show (DataW.insert _ es).length = _
    rw [hp.length_eq, List.length_cons, List.length_cons]
    exact congrArg (· + 1) ih2
def sortedKeys (D : List (Int × Int)) : List Int := (D.map (·.1)).mergeSort (fun x y => decide (x ≤ y))
section
open Go.Shelf Go.Sort
theorem sorts_in (m : Nat) : AnyZI.SortsIn Try.prog sortedRen Fence.wide m :=
  ⟨fun blk off cap ss W hH hblk hsz => callsIn_wide.2 (AnyM.slices_Sort_int sortLay blk off cap ss W hH hblk hsz), fun p cap W => callsIn_wide.2 (AnyM.slices_Sort_int_none sortLay p cap W)⟩
set_option maxHeartbeats 1000000 in
theorem numbersOf_any (w : World) (gm : Nat) (D : List (Int × Int)) (hown : MapAt w gm D) (hnd : (D.map (·.1)).Nodup) (hl : D.length ≤ 4096) :
    Calls Try.prog 64 #[.map (some gm)] w fun e w' => ∃ v, e = .returned v ∧ Kd.R (Kd.int .i64) 3 w' w.heap.size (fun _ => True) v (sortedKeys D) ∧ Below w.heap.size w w' := by
  obtain ⟨hkp, hsz⟩ := keys_perm D hnd
  refine (callsIn_wide (n := 6)).1 ?_
  have hbl := World.ownsMap.lt hown
  have hseq : SeqGives Fence.wide 2 Try.prog 112 #[.pointer (some ⟨w.heap.size, 0, none⟩)] encZ (fun ss => ss.Perm (intKeys (mapD D))) (Maps.size (mapD D)) (w.alloc (.cells #[.map (some gm)] 75)) :=
    AnyZI.keys_gives (ρ := keysRen) { keysLay with } Fence.wide _ trivial rfl (by omega) w.heap.size gm D.length (mapD D) _ (by simp) (by simp) (by
      obtain ⟨es, clock, hb, Ft, hs, hD⟩ := hown
      exact ⟨es, clock, (Below.heap_alloc _ _ gm hbl).trans hb, Ft, hs, hD⟩)
  have cK : ∀ mb W, CallsIn Fence.wide 5 Try.prog 95 #[.map mb] W fun e w' => e = .returned (.func (.func 112) #[] #[.pointer (some ⟨W.heap.size, 0, none⟩)]) ∧ w' = W.alloc (.cells #[.map mb] 75) := fun mb W => AnyZI.keys_in keysLay Fence.wide 5 trivial rfl mb W
  have cS := AnyZI.sorted_in sortedLay Fence.wide 5 trivial trivial trivial trivial rfl (by omega) (sorts_in _) (enters_of Try.func87 (by kernel_rfl) rfl) 112 #[.pointer (some ⟨w.heap.size, 0, none⟩)] trivial (enters_of Try.func112 (by kernel_rfl) rfl) _ _ (by rw [hsz]; simp only [maxLen]; omega) (by rw [hsz]; omega) _ hseq
  change CallsIn _ _ Try.prog 94 _ _ _ at cS
  have hfK : Fence.wide.fn 95 := trivial
  have hfS : Fence.wide.fn 94 := trivial
  refine callsIn_of_wp Try.func64 rfl trivial ?_ rfl
  simp only [Try.ntmps64, List.size_toArray, List.length_cons, List.length_nil, Nat.reduceAdd, Nat.reduceSub, Array.replicate_succ, Array.replicate_zero, List.push_toArray, List.append_toArray, List.nil_append, List.cons_append]
  gi_wp2_with (first
    | (gi_at_call 95; refine (cK _ _).mono ?_; rintro e w' ⟨rfl, rfl⟩)
    | (gi_at_call 94; refine cS.mono ?_; rintro e w' ⟨v, ss, rfl, hS, hrow, hnil, hb⟩))
  go_ret
  have e1 : ss.mergeSort (fun x y => decide (x ≤ y)) = sortedKeys D := mergeSort_of_perm_i (hS.trans hkp)
  rw [e1] at hrow
  have hlen : ss.length = (sortedKeys D).length := by rw [← e1, List.length_mergeSort]
  rw [hlen] at hrow
  exact ⟨v, rfl, Kd.R_of_own (ownsRow_base_a hrow (by simp)) (fun _ _ => trivial), ((Below.refl _ w).alloc (Nat.le_refl _) _).trans (hb.mono (by simp))⟩
end

end Go.Proofs.Ytkogboechfieeaa.PAll

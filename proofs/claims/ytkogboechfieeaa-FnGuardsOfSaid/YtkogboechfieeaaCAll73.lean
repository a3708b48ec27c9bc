/- Walks by hand of functions that some laws of this seat reach: leastOf. -/
import Derived.Test.YtkogboechfieeaaCAll71
import Derived.Shelf.Abstract
import Derived.Shelf.SlLaysM
import Derived.Shelf.SlLaysN
import Derived.Shelf.SortM.Plain
import Derived.Shelf.SortM.SortNone
import Derived.Shelf.SlicesG.CompactI
import Derived.Sort.OwnSortedInts
import Derived.Lib.OwnBridge
namespace Go.Proofs.Ytkogboechfieeaa.PAll
open Go.RowKit Go.Proofs.YtkogboechfieeaaW.PrintWords Go.Proofs.YtkogboechfieeaaW.PrintLast Go.Proofs.YtkogboechfieeaaW.PrintMore
set_option linter.unusedVariables false
set_option linter.unusedSimpArgs false

/-! ### impl_leastOf: function 0 -/
/-! the least crowds -/
def lessB (l : List Int) (c : Int) : Bool := l.any fun d => d != c && Go.bits .andNot .i64 d c == 0
def leastL (l : List Int) : List Int := l.filter fun c => !lessB l c
set_option maxHeartbeats 4000000 in
theorem lc1_any (x c : Int) (g : Nat) (W0 W : World) (hg : W0.heap[g]? = some (.cells #[.int .i64 c] 3 (0, 0))) (hb : Below W0.heap.size W0 W) : Calls Try.prog 114 (#[.int .i64 x] ++ #[.pointer (some ⟨g, 0, none⟩)]) W fun e w' => e = .returned (.bool (x != c && Go.bits .andNot .i64 x c == 0)) ∧ Below W.heap.size W w' := by
  have hcz := Z.c1 (blk_below hg hb)
  clear hg hb
  go_enter Try.func114, Try.ntmps114
  go_wp2
  · rename_i h
    go_ret
    exact ⟨by rw [show (x != c) = false from by simp [h], Bool.false_and]; rfl, Below.refl _ _⟩
  · go_ret
    exact ⟨by rfl, Below.refl _ _⟩
theorem leastL_step {l : List Int} {kk : Nat} (h : kk < l.length) : (l.take (kk + 1)).filter (fun c => !lessB l c) = if lessB l l[kk] = true then (l.take kk).filter (fun c => !lessB l c) else (l.take kk).filter (fun c => !lessB l c) ++ [l[kk]] := by
  rw [List.take_succ_eq_append_getElem h, List.filter_append]
  by_cases e : lessB l l[kk] = true
  · rw [if_pos e]; simp [e]
  · rw [if_neg e]; simp [e]

def sortRen : Go.Shelf.Ren := ⟨fun | 5 => 87 | 8 => 105 | 7 => 104 | 19 => 127 | 20 => 128 | 10 => 118 | 11 => 119 | 12 => 120 | 13 => 121 | 14 => 122 | 15 => 123 | 16 => 124 | 17 => 125 | 18 => 126 | 30 => 131 | 31 => 132 | 32 => 133 | 33 => 134 | 34 => 135 | 35 => 136 | 40 => 139 | n => n, fun | 23 => 23 | 25 => 3 | 3 => 3 | 32 => 107 | 22 => 23 | 0 => 0 | 44 => 123 | 46 => 125 | 4 => 4 | 36 => 117 | 35 => 116 | 41 => 82 | 5 => 5 | 9 => 9 | 53 => 127 | 57 => 131 | 63 => 133 | 64 => 134 | n => n, fun | n => n⟩
theorem sortLay : SlLaysM.n5 Try.prog sortRen where
  mixed := by kernel_rfl
  f5 := ⟨Try.f87.name, by decide, Try.func87.trans (congrArg some (by kernel_rfl))⟩
  f7 := ⟨Try.f104.name, by decide, Try.func104.trans (congrArg some (by kernel_rfl))⟩
  f8 := Try.func105.trans (congrArg some (by kernel_rfl))
  f10 := ⟨Try.f118.name, by decide, Try.func118.trans (congrArg some (by kernel_rfl))⟩
  f11 := ⟨Try.f119.name, by decide, Try.func119.trans (congrArg some (by kernel_rfl))⟩
  f12 := ⟨Try.f120.name, by decide, Try.func120.trans (congrArg some (by kernel_rfl))⟩
  f13 := ⟨Try.f121.name, by decide, Try.func121.trans (congrArg some (by kernel_rfl))⟩
  f14 := ⟨Try.f122.name, by decide, Try.func122.trans (congrArg some (by kernel_rfl))⟩
  f15 := ⟨Try.f123.name, by decide, Try.func123.trans (congrArg some (by kernel_rfl))⟩
  f16 := ⟨Try.f124.name, by decide, Try.func124.trans (congrArg some (by kernel_rfl))⟩
  f17 := ⟨Try.f125.name, by decide, Try.func125.trans (congrArg some (by kernel_rfl))⟩
  f18 := ⟨Try.f126.name, by decide, Try.func126.trans (congrArg some (by kernel_rfl))⟩
  f19 := Try.func127.trans (congrArg some (by kernel_rfl))
  f20 := Try.func128.trans (congrArg some (by kernel_rfl))
  f30 := ⟨Try.f131.name, by decide, Try.func131.trans (congrArg some (by kernel_rfl))⟩
  f31 := Try.func132.trans (congrArg some (by kernel_rfl))
  f32 := Try.func133.trans (congrArg some (by kernel_rfl))
  f33 := ⟨Try.f134.name, by decide, Try.func134.trans (congrArg some (by kernel_rfl))⟩
  f34 := ⟨Try.f135.name, by decide, Try.func135.trans (congrArg some (by kernel_rfl))⟩
  f35 := ⟨Try.f136.name, by decide, Try.func136.trans (congrArg some (by kernel_rfl))⟩
  f40 := ⟨Try.f139.name, by decide, Try.func139.trans (congrArg some (by kernel_rfl))⟩
  t0 := Try.underlying0
  a0 := Try.isAgg0
  z0 := Try.sizeOf0
  v0 := Try.zeroValue0
  t3 := Try.underlying3
  a3 := Try.isAgg3
  z3 := Try.sizeOf3
  v3 := Try.zeroValue3
  t4 := Try.underlying4
  a4 := Try.isAgg4
  z4 := Try.sizeOf4
  v4 := Try.zeroValue4
  t5 := Try.underlying5
  a5 := Try.isAgg5
  z5 := Try.sizeOf5
  v5 := Try.zeroValue5
  t9 := Try.underlying9
  a9 := Try.isAgg9
  z9 := Try.sizeOf9
  v9 := Try.zeroValue9
  t22 := Try.underlying23
  a22 := Try.isAgg23
  z22 := Try.sizeOf23
  v22 := Try.zeroValue23
  t23 := Try.underlying23
  a23 := Try.isAgg23
  z23 := Try.sizeOf23
  v23 := Try.zeroValue23
  t25 := Try.underlying3
  a25 := Try.isAgg3
  z25 := Try.sizeOf3
  v25 := Try.zeroValue3
  t32 := Try.underlying107
  a32 := Try.isAgg107
  z32 := Try.sizeOf107
  v32 := Try.zeroValue107
  t35 := Try.underlying116
  a35 := Try.isAgg116
  z35 := Try.sizeOf116
  v35 := Try.zeroValue116
  t36 := Try.underlying117
  a36 := Try.isAgg117
  z36 := Try.sizeOf117
  v36 := Try.zeroValue117
  t41 := Try.underlying82
  a41 := Try.isAgg82
  z41 := Try.sizeOf82
  v41 := Try.zeroValue82
  t44 := Try.underlying123
  a44 := Try.isAgg123
  z44 := Try.sizeOf123
  v44 := Try.zeroValue123
  t46 := Try.underlying125
  a46 := Try.isAgg125
  z46 := Try.sizeOf125
  v46 := Try.zeroValue125
  t53 := Try.underlying127
  a53 := Try.isAgg127
  z53 := Try.sizeOf127
  v53 := Try.zeroValue127
  t57 := Try.underlying131
  a57 := Try.isAgg131
  z57 := Try.sizeOf131
  v57 := Try.zeroValue131
  t63 := Try.underlying133
  a63 := Try.isAgg133
  z63 := Try.sizeOf133
  v63 := Try.zeroValue133
  t64 := Try.underlying134
  a64 := Try.isAgg134
  z64 := Try.sizeOf134
  v64 := Try.zeroValue134
def compactRen : Go.Shelf.Ren := ⟨fun | 43 => 115 | n => n, fun | 22 => 23 | 23 => 3 | 3 => 3 | 4 => 4 | 0 => 0 | n => n, fun | n => n⟩
theorem compactLay : SlLaysN.n43 Try.prog compactRen where
  mixed := by kernel_rfl
  f43 := ⟨Try.f115.name, by decide, Try.func115.trans (congrArg some (by kernel_rfl))⟩
  t0 := Try.underlying0
  a0 := Try.isAgg0
  z0 := Try.sizeOf0
  v0 := Try.zeroValue0
  t3 := Try.underlying3
  a3 := Try.isAgg3
  z3 := Try.sizeOf3
  v3 := Try.zeroValue3
  t4 := Try.underlying4
  a4 := Try.isAgg4
  z4 := Try.sizeOf4
  v4 := Try.zeroValue4
  t22 := Try.underlying23
  a22 := Try.isAgg23
  z22 := Try.sizeOf23
  v22 := Try.zeroValue23
  t23 := Try.underlying3
  a23 := Try.isAgg3
  z23 := Try.sizeOf3
  v23 := Try.zeroValue3
  i23 := by kernel_rfl
section
open Go.Shelf Go.Sort
theorem sort_any (W : World) (base : Nat) (v : Value) (L : List Int) (hR : Kd.R (Kd.int .i64) 3 W base (fun _ => True) v L) (hs : L.Pairwise (· < ·)) (hl : L.length ≤ 4096) :
    Calls Try.prog 87 #[v] W fun e w' => e = .returned (.tuple #[]) ∧ Kd.R (Kd.int .i64) 3 w' base (fun _ => True) v L ∧ W.grownBy w' v.ownBlock := by
  have ho := Kd.own_of_R hR
  have e1 : (L.mergeSort fun x y => decide (x ≤ y)) = L := List.mergeSort_of_pairwise (hs.imp fun h => by simpa using Int.le_of_lt h)
  rcases ho.2 with ⟨e0, e2⟩ | ⟨g, cap, cur, e0, hbase, hg, h1, h2, h3, h4⟩
  · subst e0
    obtain rfl : L = [] := List.eq_nil_of_length_eq_zero e2
    refine (AnyM.slices_Sort_int_none sortLay none 0 W).mono ?_
    rintro e w' ⟨rfl, rfl⟩
    exact ⟨rfl, hR, ⟨rfl, rfl, rfl, Nat.le_refl _, fun _ _ _ => rfl⟩⟩
  · subst e0
    have hH := holds_of_blockI hg (ss := L) (by simpa [encs] using h4)
    refine (AnyM.slices_Sort_int sortLay g 0 cap L W hH (blk_lt hg) (by omega)).mono ?_
    rintro e w' ⟨rfl, n, os, rfl⟩
    rw [e1]
    have hw := ownsRow_sortedI (n := n) (os := os) (ts := L) (ss := L) rfl hbase hg h1 h2 (by simpa using h3)
    exact ⟨rfl, Kd.R_of_own hw (fun _ _ => trivial), grownBy_sortedI _⟩
theorem compact_any (W : World) (base : Nat) (v : Value) (L : List Int) (hR : Kd.R (Kd.int .i64) 3 W base (fun _ => True) v L) (hs : L.Pairwise (· < ·)) (hl : L.length ≤ 4096) :
    Calls Try.prog 115 #[v] W fun e w' => e = .returned v ∧ Kd.R (Kd.int .i64) 3 w' base (fun _ => True) v L ∧ W.grownBy w' v.ownBlock := by
  have ho := Kd.own_of_R hR
  have e1 : Lib.compact L = L := Lib.compact_all L (fun j hj => by
    by_cases h0 : j < 1
    · exact Lib.keeps_lt_one _ j h0
    · refine Lib.keeps_pos ?_
      have h1 : j - 1 < L.length := by omega
      rw [getElem!_pos _ j (by simpa using hj), getElem!_pos _ (j - 1) (by simpa using h1)]
      have := List.pairwise_iff_getElem.mp hs (j - 1) j h1 hj (by omega)
      simp only [List.getElem_toArray]
      omega)
  rcases ho.2 with ⟨e0, e2⟩ | ⟨g, cap, cur, e0, hbase, hg, h1, h2, h3, h4⟩
  · subst e0
    obtain rfl : L = [] := List.eq_nil_of_length_eq_zero e2
    refine (AnyG.slices_Compact_int_empty compactLay none 0 W).mono ?_
    rintro e w' ⟨rfl, rfl⟩
    exact ⟨rfl, hR, ⟨rfl, rfl, rfl, Nat.le_refl _, fun _ _ _ => rfl⟩⟩
  · subst e0
    have hH := holds_of_blockI hg (ss := L) (by simpa [encs] using h4)
    refine (AnyG.slices_Compact_int compactLay g 0 cap L W hH (by omega) h1).mono ?_
    rintro e w' ⟨rfl, q, rfl⟩
    rw [e1, Nat.sub_self, List.replicate_zero, List.append_nil]
    have hw := Lib.ownsRow_putRow (q := q) (k := L.length) (ys := L) (zs := L) ho rfl (Nat.le_refl _)
    rw [List.take_length] at hw
    exact ⟨rfl, Kd.R_of_own hw (fun _ _ => trivial), ⟨rfl, rfl, rfl, by simp [putRow, mapBlock, Sort.ahead], fun k hk hne => by
      have : g ≠ k := fun e => hne (by rw [← e]; rfl)
      simp [putRow, mapBlock, Sort.ahead, Array.getElem?_modify, this]⟩⟩
end

set_option maxHeartbeats 8000000 in
set_option maxRecDepth 100000 in
theorem leastCrowds_any (w : World) (A : Option Addr) (cap : Nat) (l : List Int) (hC : Kd.C (Kd.int .i64) w A l.length l) (hasc : l.Pairwise (· < ·)) (hl : l.length ≤ 4096) :
  Calls Try.prog 99 #[.slice A l.length cap] w fun e w' => ∃ v, e = .returned v ∧ Kd.R (Kd.int .i64) 3 w' w.heap.size (fun _ => True) v (leastL l) ∧ Below w.heap.size w w' := by
  have HC := Z.k hC
  have HA := Z.k hasc
  have HB := Z.k (Below.refl w.heap.size w)
  clear hC hasc
  go_enter Try.func99, Try.ntmps99
  go_wp2_with (first | ((with_reducible refine gate_dst (N := 6) rfl ?_); refine Kd.R_lit (Kd.int .i64) _ 3 ?hg (N := 6) ?hd (xs := ([] : List Int)) (inner := []) (ok := fun _ => True) (okp := fun _ => True) ?hr ?hp (fun _ hk => hk) trivial (Below.refl _ _) (Nat.le_refl _) (by simp) ?_; (case hd | hg => rfl); (case hr => first | (go_simp; done) | (go_simp; rfl)); (case hp => exact (Reps.none _ _)); intro v0 w3 ho hb hg_ hnew_; clear hg_ hnew_; have HO := Z.k (Kd.R_lower ho (below_size (Z.bl HB.out))); replace HB := Z.st (Z.bl HB.out) hb; clear hb ho))
  go_loopg [3, 9] l.length (fun gg v3 v9 wr => ∃ kk : Nat, Aside0 (kk + gg = l.length) ∧ v9 = .int .i64 (kk : Int) ∧ Aside0 (Kd.R (Kd.int .i64) 3 wr w.heap.size (fun _ => True) v3 ((l.take kk).filter (fun c => !lessB l c))) ∧ Aside0 (Below w.heap.size w wr))
  case atStart => exact ⟨0, ⟨by omega⟩, by rfl, ⟨by simpa using HO.out⟩, HB⟩
  case round =>
    clear HO HB
    obtain ⟨kk, HK, rfl, HO, HB⟩ := hrel
    have hko := HK.out
    by_cases hlt : kk < l.length
    · have p2 : (0 : Int) ≤ (kk : Int) := by omega
      have q2 : (kk : Int) < (l.length : Int) := by omega
      obtain ⟨ad, ea, hx⟩ := Kd.at_int HC.out (kk : Int) p2 q2
      cases ea
      have HX := Z.k hx
      replace hx := Z.up HB.out hx
      have ex : rd l (kk : Int) = l[kk] := by unfold rd; simp [List.getD_eq_getElem?_getD, List.getElem?_eq_getElem hlt]
      have HS := Z.k (leastL_step hlt)
      rw [ex, Int.toNat_natCast] at hx
      generalize hy : l[kk] = y at hx HS
      clear hy ex
      have d0 : decide ((kk : Int) < (l.length : Int)) = true := decide_eq_true q2
      have d1 : decide (kk < l.length) = true := decide_eq_true hlt
      have HX2 := Z.k (heap_alloc_new wr (.cells #[.int .i64 y] 3))
      have HB2 := Z.k (below_alloc HB.out (.cells #[.int .i64 y] 3))
      clear hko
      cases hq : lessB l y with
      | true =>
        have HQ := Z.k hq
        clear hq
        go_wp2_with (first
          | (go_at_call 97; refine (cfI_any _ (some ad) cap l 114 #[.pointer (some ⟨wr.heap.size, 0, none⟩)] (fun args w => enters_ Try.func114 (by kernel_rfl) rfl args w) (fun d => d != y && Go.bits .andNot .i64 d y == 0) (Kd.C_below HC.out HB2.out) (fun W x _ hb => (lc1_any x y wr.heap.size _ W HX2.out hb).mono fun e w2 ⟨he, h2⟩ => ⟨he, below_step hb h2⟩) HC.out.2.1).mono ?_; rintro e w6 ⟨rfl, hb⟩; rw [show (l.any fun d => d != y && Go.bits .andNot .i64 d y == 0) = true from HQ.out]; have HB6 := Z.k (below_step HB2.out hb); have HO6 := Z.k (Kd.R_below (Kd.R_alloc HO.out _) hb); clear hb))
        go_roundg (gk - 1)
        case measure => have := HK.out; omega
        case rel => exact ⟨kk + 1, ⟨by have := HK.out; omega⟩, by first | rfl | (simp; done), ⟨by rw [HS.out, if_pos HQ.out]; exact HO6.out⟩, HB6⟩
      | false =>
        have HQ := Z.k hq
        have HLn := Z.k (show ((l.take kk).filter (fun c => !lessB l c)).length ≤ 4096 from Nat.le_trans (List.length_filter_le _ _) (by rw [List.length_take]; omega))
        clear hq
        generalize hL : (l.take kk).filter (fun c => !lessB l c) = L at HO HS HLn
        clear hL
        go_wp2_with (first
          | (go_at_call 97; refine (cfI_any _ (some ad) cap l 114 #[.pointer (some ⟨wr.heap.size, 0, none⟩)] (fun args w => enters_ Try.func114 (by kernel_rfl) rfl args w) (fun d => d != y && Go.bits .andNot .i64 d y == 0) (Kd.C_below HC.out HB2.out) (fun W x _ hb => (lc1_any x y wr.heap.size _ W HX2.out hb).mono fun e w2 ⟨he, h2⟩ => ⟨he, below_step hb h2⟩) HC.out.2.1).mono ?_; rintro e w6 ⟨rfl, hb⟩; rw [show (l.any fun d => d != y && Go.bits .andNot .i64 d y == 0) = false from HQ.out]; have HB6 := Z.k (below_step HB2.out hb); have HO6 := Z.k (Kd.R_below (Kd.R_alloc HO.out _) hb); have hcz := Z.c1 (blk_below HX2.out hb); clear hb)
          | ((with_reducible refine gate_builtin (b := .append) (xs := #[.tmp 17, .tmp 19]) rfl ?_); at_builtin; refine Kd.R_append (Kd.int .i64) (w0 := w) w.heap.size rfl (.tmp 17) (.tmp 19) 23 3 (.int .i64 0) 8 rfl Try.underlying23 info3 rfl (by decide) (by omega) u3 L y [.int .i64 y] (fun _ => True) (fun _ => False) rfl rfl ?aP (fun _ hk => hk.elim) ?aF ?aO ?aB ?aS ?aL ?_; (case aP => exact rfl); (case aB => exact (Z.bl HB6.out)); (case aF => exact (fun _ _ => trivial)); (case aO => exact (by (with_reducible repeat (first | apply Kd.R_alloc | apply Kd.R_drewN | apply Kd.R_drew)); exact HO6.out)); (case aS => exact (below_size (Z.bl HB6.out))); (case aL => have := HLn.out; omega); intro v7 w7 ho hb hg hat; have HB7 := Z.k (hb); have HO7 := Z.k (ho); clear ho hb hg hat))
        go_roundg (gk - 1)
        case measure => have := HK.out; omega
        case rel => exact ⟨kk + 1, ⟨by have := HK.out; omega⟩, by first | rfl | (simp; done), ⟨by rw [HS.out, if_neg (by rw [HQ.out]; decide)]; exact HO7.out⟩, HB7⟩
    · obtain rfl : kk = l.length := by omega
      have d0 : decide ((l.length : Int) < (l.length : Int)) = false := decide_eq_false (by omega)
      have d1 : decide (l.length < l.length) = false := decide_eq_false hlt
      have eL : (l.take l.length).filter (fun c => !lessB l c) = leastL l := by rw [List.take_length]; rfl
      rw [eL] at HO
      have HLn := Z.k (show (leastL l).length ≤ 4096 from Nat.le_trans (List.length_filter_le _ _) hl)
      have HAs := Z.k (show (leastL l).Pairwise (· < ·) from HA.out.filter _)
      clear hko eL
      go_wp2_with (first
        | (go_at_call 87; refine (sort_any _ w.heap.size u3 (leastL l) HO.out HAs.out HLn.out).mono ?_; rintro e w8 ⟨rfl, hR, hg⟩; have HB8 := Z.k (HB.out.grown hg HB.out.size (fun k hk => ((Kd.R_bound HO.out).1 k hk).2.1)); have HO8 := Z.k hR; clear hR hg)
        | (go_at_call 115; refine (compact_any _ w.heap.size u3 (leastL l) HO8.out HAs.out HLn.out).mono ?_; rintro e w9 ⟨rfl, hR, hg⟩; have HB9 := Z.k (HB8.out.grown hg HB8.out.size (fun k hk => ((Kd.R_bound HO8.out).1 k hk).2.1)); have HO9 := Z.k hR; clear hR hg))
      go_ret
      exact ⟨_, rfl, HO9.out, HB9.out⟩

/-- The crowds below n of which something is so. -/
def crowdsOf (so : Int → Bool) : Nat → List Int
  | 0 => []
  | m + 1 => if so (m : Int) = true then crowdsOf so m ++ [(m : Int)] else crowdsOf so m
theorem crowdsOf_mem (so : Int → Bool) : ∀ n, ∀ x ∈ crowdsOf so n, 0 ≤ x ∧ x < (n : Int)
  | 0 => fun x hx => by cases hx
  | m + 1 => fun x hx => by
    rw [crowdsOf] at hx
    split at hx
    · rcases List.mem_append.mp hx with hx | hx
      · have := crowdsOf_mem so m x hx; omega
      · simp only [List.mem_singleton] at hx; omega
    · have := crowdsOf_mem so m x hx; omega
theorem crowdsOf_asc (so : Int → Bool) : ∀ n, (crowdsOf so n).Pairwise (· < ·)
  | 0 => List.Pairwise.nil
  | m + 1 => by
    rw [crowdsOf]
    split
    · refine List.pairwise_append.mpr ⟨crowdsOf_asc so m, by simp, fun a ha b hb => ?_⟩
      simp only [List.mem_singleton] at hb
      have := crowdsOf_mem so m a ha; omega
    · exact crowdsOf_asc so m
theorem crowdsOf_len (so : Int → Bool) : ∀ n, (crowdsOf so n).length ≤ n
  | 0 => Nat.le_refl _
  | m + 1 => by
    have := crowdsOf_len so m
    rw [crowdsOf]
    split
    · simp; omega
    · omega
set_option maxHeartbeats 8000000 in
set_option maxRecDepth 100000 in
theorem leastOf_any (w : World) (n : Nat) (hn : n ≤ 6) (g : Nat) (lb : Array Value) (eg : ∀ args w, (callFunc g args).run Try.prog w = .ok (.enter g args) w) (so : Int → Bool)
    (hp : ∀ W (c : Nat), c < 2 ^ n → Below w.heap.size w W → Calls Try.prog g (#[.int .i64 (c : Int)] ++ lb) W fun e w' => e = .returned (.bool (so (c : Int))) ∧ Below W.heap.size W w') :
    Calls Try.prog 68 #[.int .i64 (n : Int), .func (.func g) #[] lb] w fun e w' => ∃ v, e = .returned v ∧ Kd.R (Kd.int .i64) 3 w' w.heap.size (fun _ => True) v (leastL (crowdsOf so (2 ^ n))) ∧ Below w.heap.size w w' := by
  have HP := Z.k hp
  have HN := Z.k hn
  have HB := Z.k (Below.refl w.heap.size w)
  clear hp
  have HJ := Z.k (show wrap64 (2 ^ n) = ((2 ^ n : Nat) : Int) by
    have : n = 0 ∨ n = 1 ∨ n = 2 ∨ n = 3 ∨ n = 4 ∨ n = 5 ∨ n = 6 := by omega
    rcases this with rfl | rfl | rfl | rfl | rfl | rfl | rfl <;> simp [wrap64])
  obtain ⟨M, hM⟩ : ∃ M, M = 2 ^ n := ⟨_, rfl⟩
  have HM64 := Z.k (show M ≤ 64 by rw [hM]; exact Nat.le_trans (Nat.pow_le_pow_right (by decide) hn) (by decide))
  rw [← hM] at HP ⊢
  replace HJ := Z.k (HJ.out.trans (congrArg Int.ofNat hM.symm))
  clear hM
  go_enter Try.func68, Try.ntmps68
  go_wp2_with (first | ((with_reducible refine gate_dst (N := 7) rfl ?_); refine Kd.R_lit (Kd.int .i64) _ 3 ?hg (N := 7) ?hd (xs := ([] : List Int)) (inner := []) (ok := fun _ => True) (okp := fun _ => True) ?hr ?hp (fun _ hk => hk) trivial (Below.refl _ _) (Nat.le_refl _) (by simp) ?_; (case hd | hg => rfl); (case hr => first | (go_simp; done) | (go_simp; rfl)); (case hp => exact (Reps.none _ _)); intro v0 w3 ho hb hg_ hnew_; clear hg_ hnew_; have HO := Z.k (Kd.R_lower ho (below_size (Z.bl HB.out))); replace HB := Z.st (Z.bl HB.out) hb; clear hb ho))
  go_loopg [5, 10] M (fun gg v5 v10 wr => ∃ kk : Nat, Aside0 (kk + gg = M) ∧ v10 = .int .i64 (kk : Int) ∧ Aside0 (Kd.R (Kd.int .i64) 3 wr w.heap.size (fun _ => True) v5 (crowdsOf so kk)) ∧ Aside0 (Below w.heap.size w wr))
  case atStart => exact ⟨0, ⟨by omega⟩, by rfl, ⟨HO.out⟩, HB⟩
  case round =>
    clear HO HB
    obtain ⟨kk, HK, rfl, HO, HB⟩ := hrel
    have hko := HK.out
    by_cases hlt : kk < M
    · have d0 : decide ((kk : Int) < wrap64 (2 ^ n)) = true := decide_eq_true (by rw [HJ.out]; exact Int.ofNat_lt.mpr hlt)
      have hcall := HP.out wr kk hlt HB.out
      have HLn := Z.k (Nat.le_trans (crowdsOf_len so kk) (show kk ≤ 64 by have := HM64.out; omega))
      have HS := Z.k (show crowdsOf so (kk + 1) = if so (kk : Int) = true then crowdsOf so kk ++ [(kk : Int)] else crowdsOf so kk from rfl)
      generalize hL : crowdsOf so kk = L at HO HS HLn
      clear hL hko
      cases hq : so (kk : Int) with
      | true =>
        have HQ := Z.k hq
        rw [hq] at hcall
        clear hq
        go_wp2_with (first
          | (go_at_fn g; refine hcall.mono ?_; rintro e w6 ⟨rfl, hb⟩; have HB6 := Z.k (below_step HB.out hb); have HO6 := Z.rb HO hb; clear hb)
          | ((with_reducible refine gate_builtin (b := .append) (xs := #[.tmp 16, .tmp 18]) rfl ?_); at_builtin; refine Kd.R_append (Kd.int .i64) (w0 := w) w.heap.size rfl (.tmp 16) (.tmp 18) 23 3 (.int .i64 0) 8 rfl Try.underlying23 info3 rfl (by decide) (by omega) u5 L (kk : Int) [.int .i64 (kk : Int)] (fun _ => True) (fun _ => False) rfl rfl ?aP (fun _ hk => hk.elim) ?aF ?aO ?aB ?aS ?aL ?_; (case aP => exact rfl); (case aB => exact (Z.bl HB6.out)); (case aF => exact (fun _ _ => trivial)); (case aO => exact (by (with_reducible repeat (first | apply Kd.R_alloc | apply Kd.R_drewN | apply Kd.R_drew)); exact HO6.out)); (case aS => exact (below_size (Z.bl HB6.out))); (case aL => have := HLn.out; omega); intro v7 w7 ho hb hg hat; have HB7 := Z.k (hb); have HO7 := Z.k (ho); clear ho hb hg hat))
        go_roundg (gk - 1)
        case measure => have := HK.out; omega
        case rel => exact ⟨kk + 1, ⟨by have := HK.out; omega⟩, wrap_ok kk (by have := HM64.out; have := HK.out; omega), ⟨by rw [HS.out, if_pos HQ.out]; exact HO7.out⟩, HB7⟩
      | false =>
        have HQ := Z.k hq
        rw [hq] at hcall
        clear hq
        go_wp2_with (go_at_fn g; refine hcall.mono ?_; rintro e w6 ⟨rfl, hb⟩; have HB6 := Z.k (below_step HB.out hb); have HO6 := Z.rb HO hb; clear hb)
        go_roundg (gk - 1)
        case measure => have := HK.out; omega
        case rel => exact ⟨kk + 1, ⟨by have := HK.out; omega⟩, wrap_ok kk (by have := HM64.out; have := HK.out; omega), ⟨by rw [HS.out, if_neg (by rw [HQ.out]; decide)]; exact HO6.out⟩, HB6⟩
    · obtain rfl : kk = M := by omega
      have d0 : decide ((kk : Int) < wrap64 (2 ^ n)) = false := decide_eq_false (by rw [HJ.out]; exact fun h => hlt (Int.ofNat_lt.mp h))
      obtain ⟨Av, cv, ev⟩ := Kd.R_slice HO.out
      subst ev
      obtain ⟨hz1, hz2, hz3⟩ := Kd.R_reads' HO.out
      have HZ := Z.k hz3
      clear hko hz1 hz2 hz3
      have hcall := leastCrowds_any wr Av cv (crowdsOf so kk) HZ.out (crowdsOf_asc so kk) (Nat.le_trans (crowdsOf_len so kk) (by have := HM64.out; omega))
      go_wp2_with (go_at_call 99; refine hcall.mono ?_; rintro e w8 ⟨v8, rfl, hR, hb⟩; have HR := Z.k (Kd.R_lower hR (below_size HB.out)); have HB8 := Z.k (below_step HB.out hb); clear hR hb)
      go_ret
      exact ⟨_, rfl, HR.out, HB8.out⟩

theorem crowdsOf_congr {f g : Int → Bool} : ∀ n : Nat, (∀ c : Nat, c < n → f (c : Int) = g (c : Int)) → crowdsOf f n = crowdsOf g n
  | 0, _ => rfl
  | m + 1, h => by rw [crowdsOf, crowdsOf, h m (by omega), crowdsOf_congr m (fun c hc => h c (by omega))]
/-- The least crowds of so many of which f says so; none where f says nothing of one. -/
def crowdsF (f : Int → Option Bool) (n : Nat) : Option (List Int) := if (List.range n).all (fun c => (f (c : Int)).isSome) = true then some (leastL (crowdsOf (fun c => (f c).getD false) n)) else none
theorem crowdsF_at {f : Int → Option Bool} {n : Nat} (h : (List.range n).all (fun c => (f (c : Int)).isSome) = true) {c : Nat} (hc : c < n) : ∃ b, f (c : Int) = some b :=
  Option.isSome_iff_exists.mp (List.all_eq_true.mp h c (List.mem_range.mpr hc))
theorem crowdsF_of {f : Int → Option Bool} {n : Nat} {g : Int → Bool} (h : ∀ c : Nat, c < n → f (c : Int) = some (g (c : Int))) : crowdsF f n = some (leastL (crowdsOf g n)) := by
  unfold crowdsF
  rw [if_pos (List.all_eq_true.mpr fun c hc => by rw [h c (List.mem_range.mp hc)]; rfl), crowdsOf_congr n (g := g) (fun c hc => by rw [h c hc]; rfl)]
/-- Three boxes that lie: a charter, a row and a row. -/
structure Bx3 (w W : World) (gb gf gt : Nat) (ca : Array Value) (vf vt : Value) : Prop where
  b : Below w.heap.size w W
  c : W.heap[gb]? = some (.cells ca 28 (0, 0))
  f : W.heap[gf]? = some (.cells #[vf] 23 (0, 0))
  t : W.heap[gt]? = some (.cells #[vt] 23 (0, 0))
theorem Bx3.step {w W W' : World} {gb gf gt : Nat} {ca : Array Value} {vf vt : Value} (h : Bx3 w W gb gf gt ca vf vt) (hb : Below W.heap.size W W') : Bx3 w W' gb gf gt ca vf vt :=
  ⟨below_step h.b hb, blk_below h.c hb, blk_below h.f hb, blk_below h.t hb⟩

end Go.Proofs.Ytkogboechfieeaa.PAll

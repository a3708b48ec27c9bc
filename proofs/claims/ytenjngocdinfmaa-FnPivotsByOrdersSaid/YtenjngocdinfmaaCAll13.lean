/- Walks of functions that All reaches, in the form of the print. -/
-- PRINTED
import Derived.Test.YtenjngocdinfmaaCAll9
namespace Go.Proofs.Ytenjngocdinfmaa.PAll
open Go.RowKit Go.Proofs.YtenjngocdinfmaaW.PrintWords Go.Proofs.YtenjngocdinfmaaW.PrintLast Go.Proofs.YtenjngocdinfmaaW.PrintMore
attribute [local go_sem] max2_int min2_int max_two min_two max_three min_three max_four min_four
set_option linter.unusedVariables false
set_option linter.unusedSimpArgs false

/-! ### impl_swingsOf: function 21 -/
def impl_swingsOf.l0 : Nat → List (S35) → Int → List Int → Int → Int → Int → List Int → Option (List Int)
 | 0, _, _, _, _, _, _, _ => none
 | k + 1, x1, x2, x7, x12, x13, x409000, x409001 => if x13 < x12 then (if 0 ≤ x2 then (if (Go.bits .and .i64 (shr .i64 x13 x2) 1) = 0 then ((impl_consents.f k x409000 x409001 x1 x13).bind fun t412 => (if t412 = true then (impl_swingsOf.l0 k x1 x2 x7 x12 (wrap64 (x13 + 1)) x409000 x409001) else ((impl_consents.f k x409000 x409001 x1 (Go.bits .or .i64 x13 (shl .i64 1 x2))).bind fun t413 => (if t413 = true then (if x7.length < 17592186044416 then (impl_swingsOf.l0 k x1 x2 (x7 ++ [x13]) x12 (wrap64 (x13 + 1)) x409000 x409001) else (none)) else (impl_swingsOf.l0 k x1 x2 x7 x12 (wrap64 (x13 + 1)) x409000 x409001))))) else (impl_swingsOf.l0 k x1 x2 x7 x12 (wrap64 (x13 + 1)) x409000 x409001)) else (none)) else (some x7)
def impl_swingsOf.f (k : Nat) (a0_0 : Int) (l0_1 : List Int) (l1 : List (S35)) (a2 : Int) : Option (List Int) := if 0 ≤ a0_0 then (impl_swingsOf.l0 k l1 a2 (([] : List Int)) (shl .i64 1 a0_0) 0 a0_0 l0_1) else (none)
def impl_swingsOf.T5 : Bool × List (List Nat × List Nat) := (true, [([], []), ([], []), ([0, 1], [0, 1]), ([2], [2]), ([3], [3]), ([4], [4]), ([5], [5]), ([5], [5]), ([5], [5]), ([6, 7, 8, 5, 5], [5, 6, 7, 8]), ([9, 5], [5, 9]), ([5, 10], [5, 10]), ([11, 9], [11]), ([12], [12]), ([12], [12]), ([12], [12]), ([12], [12]), ([16, 12], [12, 16]), ([15, 17, 12], [12, 15, 17]), ([13, 14, 18, 12, 12], [12, 13, 14, 18]), ([12, 19], [12, 19])])
def impl_swingsOf.B5 : List Nat := [0, 0, 3, 7, 15, 31, 63, 63, 63, 511, 1023, 2047, 4095, 8191, 8191, 8191, 8191, 73727, 237567, 524287, 1048575]
theorem impl_swingsOf.tab5 : rtab .any (opsOf Try.f21 5) = impl_swingsOf.T5 := by kernel_rfl
theorem impl_swingsOf.bits5 : waitsOk impl_swingsOf.T5.2 impl_swingsOf.B5 = true := by kernel_rfl
set_option maxHeartbeats 8000000 in
set_option maxRecDepth 100000 in
theorem impl_swingsOf.calls (k : Nat) (a0_0 : Int) (A0_1 : Option Addr) (c0_1 : Nat) (l0_1 : List Int) (A1 : Option Addr) (c1 : Nat) (l1 : List (S35)) (a2 : Int) (r : List Int) (w : World) (hr0_1 : Kd.C (Kd.int .i64) w A0_1 l0_1.length l0_1) (hc0_1 : l0_1.length ≤ c0_1) (hr1 : Kd.C k35 w A1 l1.length l1) (hc1 : l1.length ≤ c1) (h : impl_swingsOf.f k a0_0 l0_1 l1 a2 = some r) :
  Calls Try.prog 21 #[.agg #[.int .i64 a0_0, .slice A0_1 l0_1.length c0_1], .slice A1 l1.length c1, .int .i64 a2] w fun e w' => ∃ v0_ : Value, e = .returned (v0_) ∧ Kd.R (Kd.int .i64) 3 w' w.heap.size (fun _ => True) v0_ r ∧ Below w.heap.size w w' := by
 have hu25 := Try.underlying25
 have HR0_1 := Aside0.mk hr0_1
 have HC0_1 := Aside0.mk hc0_1
 clear hr0_1 hc0_1
 have HR1 := Aside0.mk hr1
 have HC1 := Aside0.mk hc1
 clear hr1 hc1
 have HB := Aside0.mk (Below.refl w.heap.size w)
 have H := h
 clear h
 unfold impl_swingsOf.f at H
 obtain ⟨y409, hy409⟩ : ∃ y_ : List Int, y_ = (([] : List Int)) := ⟨_, rfl⟩
 replace H : (if 0 ≤ a0_0 then (impl_swingsOf.l0 k l1 a2 y409 (shl .i64 1 a0_0) 0 a0_0 l0_1) else (none)) = some r := by first | (rw [hy409]; with_reducible exact H) | (have H2_ := (Option.bind_some _ _).symm.trans H; rw [hy409]; with_reducible exact H2_) | (have H2_ := (Option.bind_some _ _).symm.trans H; with_reducible exact H2_) | with_reducible exact H | (rw [hy409]; exact H) | exact H
 have Ny409 := Aside0.mk hy409
 clear hy409
 obtain ⟨c4, H⟩ := Z.ifp H
 have c4b0 := eq_true c4
 have c4b1 : decide (0 ≤ a0_0) = true := decide_eq_true c4
 clear c4
 obtain ⟨ji5, hji5⟩ : ∃ j_ : Int, (shl .i64 1 a0_0) = j_ := ⟨_, rfl⟩
 replace H : (impl_swingsOf.l0 k l1 a2 y409 ji5 0 a0_0 l0_1) = some r := by first | (rw [hji5] at H; exact H) | (simp only [hji5] at H ⊢; exact H)
 have hji5_ : (IntKind.i64.wrap (1 * 2 ^ min a0_0.toNat 64)) = ji5 := hji5
 have hji5z : a0_0 ≤ 64 → (IntKind.i64.wrap (1 * 2 ^ a0_0.toNat)) = ji5 := shl_small hji5
 have hji5u : (IntKind.i64.wrap (2 ^ min a0_0.toNat 64)) = ji5 := by have h_ := hji5_; rw [Int.one_mul] at h_; exact h_
 have hji5v : a0_0 ≤ 64 → (IntKind.i64.wrap (2 ^ a0_0.toNat)) = ji5 := fun hle_ => by have h_ := hji5z hle_; rw [Int.one_mul] at h_; exact h_
 have hji5y : (wrap64 (1 * 2 ^ min a0_0.toNat 64)) = ji5 := (i64_w _).symm.trans hji5_
 have hji5x : a0_0 ≤ 64 → (wrap64 (1 * 2 ^ a0_0.toNat)) = ji5 := fun h_ => (i64_w _).symm.trans (hji5z h_)
 have H' := Aside0.mk H
 clear H
 go_enter Try.func21, Try.ntmps21
 go_wp2_with (first | ((with_reducible refine gate_dst (N := 3) rfl ?_); refine Z.bx #[.int .i64 a0_0, .slice A0_1 l0_1.length c0_1] 25 HB ?_; clear HB; intro gb408 w6 BK408 GE408 HB hg hb; have GW408 := GE408; clear hb hg) | ((with_reducible refine gate_dst (N := 9) rfl ?_); refine Kd.R_lit (Kd.int .i64) _ 3 ?hg (N := 9) ?hd (xs := ([] : List Int)) (inner := []) (ok := fun _ => True) (okp := fun _ => True) ?hr ?hp (fun _ hk => hk) trivial (Below.refl _ _) (Nat.le_refl _) (by simp) ?_; (case hd | hg => rfl); (case hr => first | (go_simp; done) | (go_simp; rfl)); (case hp => exact (Reps.none _ _)); intro v410 w7 ho8 hb hg_ hnew_; clear hg_ hnew_; (first | rw [← Ny409.out] at ho8 | (simp only [Int.reduceToNat] at ho8; rw [← Ny409.out] at ho8)); have HO411 := Aside0.mk (Kd.R_lower ho8 (below_size (Z.bs HB.out GE408.out))); replace BK408 := Z.bb BK408 hb; replace HB := Z.st (Z.bs HB.out GE408.out) hb; clear hb ho8; have hcz9 := Z.c2 BK408.out))
 go_loopg [7, 13] k (fun kq v7 v13 w' => ∃ (x7_1 : List Int) (x13_1 : Int), v13 = .int .i64 x13_1 ∧ Aside0 (impl_swingsOf.l0 kq l1 a2 x7_1 ji5 x13_1 a0_0 l0_1 = some r) ∧ Aside0 (kq ≤ k) ∧ Aside0 (Kd.R (Kd.int .i64) 3 w' w.heap.size (fun _ => True) v7 x7_1) ∧ Aside0 (w'.heap[gb408]? = some (.cells #[.int .i64 a0_0, (.slice A0_1 l0_1.length c0_1)] 25 (0, 0))) ∧ Aside0 (Below w.heap.size w w'))
 case atStart => exact ⟨(y409), (0), (by first | rfl | (simp; done) | (simp [*]; done)), H', ⟨Nat.le_refl _⟩, ⟨by (with_reducible repeat (first | apply Kd.R_alloc | apply Kd.R_drewN | apply Kd.R_drew)); exact HO411.out⟩, ⟨by (with_reducible repeat (first | refine blk_drewN ?_ _ | refine blk_drew ?_ | refine blk_alloc ?_ _)); exact BK408.out⟩, ⟨Z.bs HB.out GE408.out⟩⟩
 case round =>
  clear H'
  try clear c1
  try clear c2
  try clear p2
  try clear c4
  try clear c4b0
  try clear c4b1
  try clear p6
  try clear hcz9_0
  try clear hcz9_1
  try clear hfz9_0
  try clear hfz9_1
  obtain ⟨x7_1, x13_1, rfl, HA, HK1, HO_7, BK408, HB⟩ := hrel
  cases gk with
  | zero => exact absurd HA.out (by simp [impl_swingsOf.l0])
  | succ k1 =>
   have H := HA.out
   clear HA
   simp only [impl_swingsOf.l0] at H
   by_cases c10 : x13_1 < ji5
   ·rw [if_pos c10] at H
    have c10b0 := decide_eq_true c10
    clear c10
    obtain ⟨c11, H⟩ := Z.ifp H
    have c11b0 := eq_true c11
    have c11b1 : decide (0 ≤ a2) = true := decide_eq_true c11
    clear c11
    obtain ⟨ji12, hji12⟩ : ∃ j_ : Int, (shr .i64 x13_1 a2) = j_ := ⟨_, rfl⟩
    replace H : (if (Go.bits .and .i64 (ji12) 1) = 0 then ((impl_consents.f k1 a0_0 l0_1 l1 x13_1).bind fun t412 => (if t412 = true then (impl_swingsOf.l0 k1 l1 a2 x7_1 ji5 (wrap64 (x13_1 + 1)) a0_0 l0_1) else ((impl_consents.f k1 a0_0 l0_1 l1 (Go.bits .or .i64 x13_1 (shl .i64 1 a2))).bind fun t413 => (if t413 = true then (if x7_1.length < 17592186044416 then (impl_swingsOf.l0 k1 l1 a2 (x7_1 ++ [x13_1]) ji5 (wrap64 (x13_1 + 1)) a0_0 l0_1) else (none)) else (impl_swingsOf.l0 k1 l1 a2 x7_1 ji5 (wrap64 (x13_1 + 1)) a0_0 l0_1))))) else (impl_swingsOf.l0 k1 l1 a2 x7_1 ji5 (wrap64 (x13_1 + 1)) a0_0 l0_1)) = some r := by first | (rw [hji12] at H; exact H) | (simp only [hji12] at H ⊢; exact H)
    have hji12_ : (x13_1 / 2 ^ min a2.toNat 64) = ji12 := hji12
    have hji12z : a2 ≤ 64 → (x13_1 / 2 ^ a2.toNat) = ji12 := shr_small hji12
    by_cases c13 : (Go.bits .and .i64 (ji12) 1) = 0
    ·rw [if_pos c13] at H
     have c13b0 : ((Go.bits .and .i64 (ji12) 1) == 0) = true := beq_iff_eq.mpr c13
     have c13b1 : ((Go.bits .and .i64 (ji12) 1) != 0) = false := bne_eq_false_iff_eq.mpr c13
     clear c13
     replace H := Option.bind_eq_some_iff.mp H
     obtain ⟨t412, A140, H⟩ := H
     try dsimp only at H
     have A14 := Aside0.mk A140
     clear A140
     by_cases c15 : t412 = true
     ·subst c15
      rw [if_pos rfl] at H
      have H' := Aside0.mk H
      clear H
      try go_wp2
      replace HO_7 := Aside0.mk (Kd.R_drew HO_7.out)
      replace BK408 := Aside0.mk (blk_drew BK408.out)
      replace HB := Aside0.mk (below_drew1 HB.out)
      refine start_ (n := 21) (S := fun w' => w'.cell? ⟨gb408, 0, none⟩ = some (.int .i64 a0_0) ∧ w'.cell? ⟨gb408, 1, none⟩ = some (.slice A0_1 l0_1.length c0_1)) (ds := []) #[false, false, false, false, false, false, false, false, false, false, false, false, false, false, false, false, false, false, false, false, false] (by kernel_rfl) rfl rfl ⟨(blk_cell BK408.out 0).trans rfl, (blk_cell BK408.out 1).trans rfl⟩ (fun hHeld => ?_); refine with_tabW impl_swingsOf.tab5 impl_swingsOf.bits5 (fun HT_ HW_ => ?_)
      generalize wr.drew = w16 at HO_7 BK408 HB hHeld ⊢
      refine Z.pv 0 16 21 1 HT_.out ?_
      refine Z.pv 1 17 21 3 HT_.out ?_
      refine Z.pv 2 18 21 7 HT_.out ?_
      refine Z.pv 3 19 21 15 HT_.out ?_
      refine Z.pv 4 20 21 31 HT_.out ?_
      refine Z.pv 5 21 21 63 HT_.out ?_
      refine Z.pv 7 23 21 191 HT_.out ?_
      refine Z.pv 8 24 21 447 HT_.out ?_
      refine Z.t2 6 22 21 511 HT_.out HW_.out hHeld ?_
      refine one_ (i := 9) (N := some 25) (Z.mb 21 1023) rfl rfl (one_of HT_.out (by kernel_rfl)) (by decide) (fun K hK => ?_)
      refine goes_ Try.func28 (by kernel_rfl) rfl #[.agg #[.int .i64 a0_0, .slice A0_1 l0_1.length c0_1], .slice A1 l1.length c1, .int .i64 x13_1] (by rfl) rfl rfl Z.ar ?_
      with_reducible refine (impl_consents.calls k1 a0_0 _ _ l0_1 _ _ l1 x13_1 true _ ?q1 ?q2 ?q3 ?q4 A14.out).mono ?_
      (case q1 => exact Z.cc HR0_1 HB)
      (case q2 => exact HC0_1.out)
      (case q3 => exact Z.cc HR1 HB)
      (case q4 => exact HC1.out)
      rintro e w17 ⟨rfl, hb⟩
      refine ⟨_, rfl, ?_⟩
      replace HO_7 := Aside0.mk (Kd.R_below (by (with_reducible repeat (first | apply Kd.R_alloc | apply Kd.R_drewN | apply Kd.R_drew)); exact HO_7.out) hb)
      replace BK408 := Z.bb BK408 hb
      replace HB := Z.st (Z.bs HB.out GE408.out) hb
      (try clear hb)
      (try clear hb2)
      (try clear hk)
      (try clear hi)
      refine hK.out _ _ ⟨(blk_cell BK408.out 0).trans rfl, (blk_cell BK408.out 1).trans rfl⟩ (fun hHeld => ?_)
      clear hK K
      refine Z.nm ?_
      refine Z.pv 10 26 21 2047 HT_.out ?_
      refine Z.pv 11 27 21 4095 HT_.out ?_
      refine Z.pv 12 28 21 8191 HT_.out ?_
      refine Z.pu 13 29 21 16383 HT_.out ?_
      refine Z.pu 14 30 21 32767 HT_.out ?_
      refine Z.pu 15 31 21 65535 HT_.out ?_
      refine Z.pu 16 32 21 131071 HT_.out ?_
      refine Z.pu 17 33 21 262143 HT_.out ?_
      refine Z.pu 18 34 21 524287 HT_.out ?_
      refine Z.pu 19 35 21 1048575 HT_.out ?_
      refine Z.pv 20 36 21 2097151 HT_.out ?_
      refine done_ (done_of HT_.out (by kernel_rfl)) ?_
      try go_wp2
      go_roundg k1
      case measure => have := HK1.out; omega
      case rel => exact ⟨(x7_1), (wrap64 (x13_1 + 1)), (by first | rfl | (simp; done) | (simp [*]; done)), H', ⟨by have := HK1.out; omega⟩, ⟨by (with_reducible repeat (first | apply Kd.R_alloc | apply Kd.R_drewN | apply Kd.R_drew)); exact HO_7.out⟩, ⟨by (with_reducible repeat (first | refine blk_drewN ?_ _ | refine blk_drew ?_ | refine blk_alloc ?_ _)); exact BK408.out⟩, ⟨Z.bs HB.out GE408.out⟩⟩
     ·replace c15 := Bool.eq_false_iff.mpr c15
      subst c15
      rw [if_neg (show ¬ (false = true) by decide)] at H
      have c18b0 := eq_true (Z.od : 0 ≤ a2)
      obtain ⟨ji19, hji19⟩ : ∃ j_ : Int, (shl .i64 1 a2) = j_ := ⟨_, rfl⟩
      replace H : ((impl_consents.f k1 a0_0 l0_1 l1 (Go.bits .or .i64 x13_1 (ji19))).bind fun t413 => (if t413 = true then (if x7_1.length < 17592186044416 then (impl_swingsOf.l0 k1 l1 a2 (x7_1 ++ [x13_1]) ji5 (wrap64 (x13_1 + 1)) a0_0 l0_1) else (none)) else (impl_swingsOf.l0 k1 l1 a2 x7_1 ji5 (wrap64 (x13_1 + 1)) a0_0 l0_1))) = some r := by first | (rw [hji19] at H; exact H) | (simp only [hji19] at H ⊢; exact H)
      (try rw [hji19] at A14)
      have hji19_ : (IntKind.i64.wrap (1 * 2 ^ min a2.toNat 64)) = ji19 := hji19
      have hji19z : a2 ≤ 64 → (IntKind.i64.wrap (1 * 2 ^ a2.toNat)) = ji19 := shl_small hji19
      have hji19u : (IntKind.i64.wrap (2 ^ min a2.toNat 64)) = ji19 := by have h_ := hji19_; rw [Int.one_mul] at h_; exact h_
      have hji19v : a2 ≤ 64 → (IntKind.i64.wrap (2 ^ a2.toNat)) = ji19 := fun hle_ => by have h_ := hji19z hle_; rw [Int.one_mul] at h_; exact h_
      have hji19y : (wrap64 (1 * 2 ^ min a2.toNat 64)) = ji19 := (i64_w _).symm.trans hji19_
      have hji19x : a2 ≤ 64 → (wrap64 (1 * 2 ^ a2.toNat)) = ji19 := fun h_ => (i64_w _).symm.trans (hji19z h_)
      replace H := Option.bind_eq_some_iff.mp H
      obtain ⟨t413, A200, H⟩ := H
      try dsimp only at H
      have A20 := Aside0.mk A200
      clear A200
      by_cases c21 : t413 = true
      ·subst c21
       rw [if_pos rfl] at H
       obtain ⟨c22, H⟩ := Z.ifp H
       have LMc22 := Aside0.mk c22
       clear c22
       obtain ⟨y414, hy414⟩ : ∃ y_ : List Int, y_ = (x7_1 ++ [x13_1]) := ⟨_, rfl⟩
       replace H : (impl_swingsOf.l0 k1 l1 a2 y414 ji5 (wrap64 (x13_1 + 1)) a0_0 l0_1) = some r := by first | (rw [hy414]; with_reducible exact H) | (have H2_ := (Option.bind_some _ _).symm.trans H; rw [hy414]; with_reducible exact H2_) | (have H2_ := (Option.bind_some _ _).symm.trans H; with_reducible exact H2_) | with_reducible exact H | (rw [hy414]; exact H) | exact H
       have Ny414 := Aside0.mk hy414
       clear hy414
       have H' := Aside0.mk H
       clear H
       try go_wp2
       replace HO_7 := Aside0.mk (Kd.R_drew HO_7.out)
       replace BK408 := Aside0.mk (blk_drew BK408.out)
       replace HB := Aside0.mk (below_drew1 HB.out)
       refine start_ (n := 21) (S := fun w' => w'.cell? ⟨gb408, 0, none⟩ = some (.int .i64 a0_0) ∧ w'.cell? ⟨gb408, 1, none⟩ = some (.slice A0_1 l0_1.length c0_1)) (ds := []) #[false, false, false, false, false, false, false, false, false, false, false, false, false, false, false, false, false, false, false, false, false] (by kernel_rfl) rfl rfl ⟨(blk_cell BK408.out 0).trans rfl, (blk_cell BK408.out 1).trans rfl⟩ (fun hHeld => ?_); refine with_tabW impl_swingsOf.tab5 impl_swingsOf.bits5 (fun HT_ HW_ => ?_)
       generalize wr.drew = w23 at HO_7 BK408 HB hHeld ⊢
       refine Z.pv 0 16 21 1 HT_.out ?_
       refine Z.pv 1 17 21 3 HT_.out ?_
       refine Z.pv 2 18 21 7 HT_.out ?_
       refine Z.pv 3 19 21 15 HT_.out ?_
       refine Z.pv 4 20 21 31 HT_.out ?_
       refine Z.pv 5 21 21 63 HT_.out ?_
       refine Z.pv 7 23 21 191 HT_.out ?_
       refine Z.pv 8 24 21 447 HT_.out ?_
       refine Z.t2 6 22 21 511 HT_.out HW_.out hHeld ?_
       refine one_ (i := 9) (N := some 25) (Z.mb 21 1023) rfl rfl (one_of HT_.out (by kernel_rfl)) (by decide) (fun K hK => ?_)
       refine goes_ Try.func28 (by kernel_rfl) rfl #[.agg #[.int .i64 a0_0, .slice A0_1 l0_1.length c0_1], .slice A1 l1.length c1, .int .i64 x13_1] (by rfl) rfl rfl Z.ar ?_
       with_reducible refine (impl_consents.calls k1 a0_0 _ _ l0_1 _ _ l1 x13_1 false _ ?q1 ?q2 ?q3 ?q4 A14.out).mono ?_
       (case q1 => exact Z.cc HR0_1 HB)
       (case q2 => exact HC0_1.out)
       (case q3 => exact Z.cc HR1 HB)
       (case q4 => exact HC1.out)
       rintro e w24 ⟨rfl, hb⟩
       refine ⟨_, rfl, ?_⟩
       replace HO_7 := Aside0.mk (Kd.R_below (by (with_reducible repeat (first | apply Kd.R_alloc | apply Kd.R_drewN | apply Kd.R_drew)); exact HO_7.out) hb)
       replace BK408 := Z.bb BK408 hb
       replace HB := Z.st (Z.bs HB.out GE408.out) hb
       (try clear hb)
       (try clear hb2)
       (try clear hk)
       (try clear hi)
       refine hK.out _ _ ⟨(blk_cell BK408.out 0).trans rfl, (blk_cell BK408.out 1).trans rfl⟩ (fun hHeld => ?_)
       clear hK K
       refine Z.nm ?_
       refine Z.pv 10 26 21 2047 HT_.out ?_
       refine Z.pv 11 27 21 4095 HT_.out ?_
       refine Z.pv 12 28 21 8191 HT_.out ?_
       refine Z.pv 14 30 21 24575 HT_.out ?_
       refine Z.pv 15 31 21 57343 HT_.out ?_
       refine Z.pv 16 32 21 122879 HT_.out ?_
       refine Z.pv 17 33 21 253951 HT_.out ?_
       refine Z.pv 18 34 21 516095 HT_.out ?_
       refine Z.t2 13 29 21 524287 HT_.out HW_.out hHeld ?_
       refine one_ (i := 19) (N := some 35) (Z.mb 21 1048575) rfl rfl (one_of HT_.out (by kernel_rfl)) (by decide) (fun K hK => ?_)
       refine goes_ Try.func28 (by kernel_rfl) rfl #[.agg #[.int .i64 a0_0, .slice A0_1 l0_1.length c0_1], .slice A1 l1.length c1, .int .i64 (Go.bits .or .i64 x13_1 (ji19))] (by rfl) rfl rfl (by (try simp only [List.map_toArray, List.map_cons, List.map_nil]); first | done | (simp only [hji19]; rfl) | rfl | (simp only [List.length_drop, List.length_take]; rfl)) ?_
       with_reducible refine (impl_consents.calls k1 a0_0 _ _ l0_1 _ _ l1 (Go.bits .or .i64 x13_1 (ji19)) true _ ?q1 ?q2 ?q3 ?q4 A20.out).mono ?_
       (case q1 => exact Z.cc HR0_1 HB)
       (case q2 => exact HC0_1.out)
       (case q3 => exact Z.cc HR1 HB)
       (case q4 => exact HC1.out)
       rintro e w25 ⟨rfl, hb⟩
       refine ⟨_, rfl, ?_⟩
       replace HO_7 := Aside0.mk (Kd.R_below (by (with_reducible repeat (first | apply Kd.R_alloc | apply Kd.R_drewN | apply Kd.R_drew)); exact HO_7.out) hb)
       replace BK408 := Z.bb BK408 hb
       replace HB := Z.st (Z.bs HB.out GE408.out) hb
       (try clear hb)
       (try clear hb2)
       (try clear hk)
       (try clear hi)
       refine hK.out _ _ ⟨(blk_cell BK408.out 0).trans rfl, (blk_cell BK408.out 1).trans rfl⟩ (fun hHeld => ?_)
       clear hK K
       refine Z.nm ?_
       refine Z.pv 20 36 21 2097151 HT_.out ?_
       refine done_ (done_of HT_.out (by kernel_rfl)) ?_
       try go_wp2_with (first | ((with_reducible refine gate_builtin (b := .append) (xs := #[.tmp 37, .tmp 39]) rfl ?_); at_builtin; refine Kd.R_append (Kd.int .i64) (w0 := w) w.heap.size rfl (.tmp 37) (.tmp 39) 23 3 (.int .i64 0) 8 rfl Try.underlying23 info3 rfl (by decide) (by omega) u7 x7_1 x13_1 [.int .i64 x13_1] (fun _ => True) (fun _ => False) rfl rfl ?aP (fun _ hk => hk.elim) ?aF ?aO ?aB ?aS ?aL ?_; (case aP => exact rfl); (case aB => exact (Z.bs HB.out GE408.out)); (case aF => exact (fun _ _ => trivial)); (case aO => exact (by (with_reducible repeat (first | apply Kd.R_alloc | apply Kd.R_drewN | apply Kd.R_drew)); exact HO_7.out)); (case aS => exact (below_size (Z.bs HB.out GE408.out))); (case aL => have := LMc22.out; omega); intro v415 w26 ho hb hg hat; rw [← Ny414.out] at ho; replace BK408 := Aside0.mk (blk_grown (g := gb408) (o := .cells #[.int .i64 a0_0, .slice A0_1 l0_1.length c0_1] 25 (0, 0)) (Z.bk BK408.out) hg (Kd.R_ne HO_7.out BK408.out (by decide))); replace HB := Aside0.mk (hb); have HO416 := Aside0.mk (ho); clear HO_7; clear ho hb hg hat))
       go_roundg k1
       case measure => have := HK1.out; omega
       case rel => exact ⟨(y414), (wrap64 (x13_1 + 1)), (by first | rfl | (simp; done) | (simp [*]; done)), H', ⟨by have := HK1.out; omega⟩, ⟨by (with_reducible repeat (first | apply Kd.R_alloc | apply Kd.R_drewN | apply Kd.R_drew)); exact HO416.out⟩, ⟨by (with_reducible repeat (first | refine blk_drewN ?_ _ | refine blk_drew ?_ | refine blk_alloc ?_ _)); exact BK408.out⟩, ⟨Z.bs HB.out GE408.out⟩⟩
      ·replace c21 := Bool.eq_false_iff.mpr c21
       subst c21
       rw [if_neg (show ¬ (false = true) by decide)] at H
       have H' := Aside0.mk H
       clear H
       try go_wp2
       replace HO_7 := Aside0.mk (Kd.R_drew HO_7.out)
       replace BK408 := Aside0.mk (blk_drew BK408.out)
       replace HB := Aside0.mk (below_drew1 HB.out)
       refine start_ (n := 21) (S := fun w' => w'.cell? ⟨gb408, 0, none⟩ = some (.int .i64 a0_0) ∧ w'.cell? ⟨gb408, 1, none⟩ = some (.slice A0_1 l0_1.length c0_1)) (ds := []) #[false, false, false, false, false, false, false, false, false, false, false, false, false, false, false, false, false, false, false, false, false] (by kernel_rfl) rfl rfl ⟨(blk_cell BK408.out 0).trans rfl, (blk_cell BK408.out 1).trans rfl⟩ (fun hHeld => ?_); refine with_tabW impl_swingsOf.tab5 impl_swingsOf.bits5 (fun HT_ HW_ => ?_)
       generalize wr.drew = w27 at HO_7 BK408 HB hHeld ⊢
       refine Z.pv 0 16 21 1 HT_.out ?_
       refine Z.pv 1 17 21 3 HT_.out ?_
       refine Z.pv 2 18 21 7 HT_.out ?_
       refine Z.pv 3 19 21 15 HT_.out ?_
       refine Z.pv 4 20 21 31 HT_.out ?_
       refine Z.pv 5 21 21 63 HT_.out ?_
       refine Z.pv 7 23 21 191 HT_.out ?_
       refine Z.pv 8 24 21 447 HT_.out ?_
       refine Z.t2 6 22 21 511 HT_.out HW_.out hHeld ?_
       refine one_ (i := 9) (N := some 25) (Z.mb 21 1023) rfl rfl (one_of HT_.out (by kernel_rfl)) (by decide) (fun K hK => ?_)
       refine goes_ Try.func28 (by kernel_rfl) rfl #[.agg #[.int .i64 a0_0, .slice A0_1 l0_1.length c0_1], .slice A1 l1.length c1, .int .i64 x13_1] (by rfl) rfl rfl Z.ar ?_
       with_reducible refine (impl_consents.calls k1 a0_0 _ _ l0_1 _ _ l1 x13_1 false _ ?q1 ?q2 ?q3 ?q4 A14.out).mono ?_
       (case q1 => exact Z.cc HR0_1 HB)
       (case q2 => exact HC0_1.out)
       (case q3 => exact Z.cc HR1 HB)
       (case q4 => exact HC1.out)
       rintro e w28 ⟨rfl, hb⟩
       refine ⟨_, rfl, ?_⟩
       replace HO_7 := Aside0.mk (Kd.R_below (by (with_reducible repeat (first | apply Kd.R_alloc | apply Kd.R_drewN | apply Kd.R_drew)); exact HO_7.out) hb)
       replace BK408 := Z.bb BK408 hb
       replace HB := Z.st (Z.bs HB.out GE408.out) hb
       (try clear hb)
       (try clear hb2)
       (try clear hk)
       (try clear hi)
       refine hK.out _ _ ⟨(blk_cell BK408.out 0).trans rfl, (blk_cell BK408.out 1).trans rfl⟩ (fun hHeld => ?_)
       clear hK K
       refine Z.nm ?_
       refine Z.pv 10 26 21 2047 HT_.out ?_
       refine Z.pv 11 27 21 4095 HT_.out ?_
       refine Z.pv 12 28 21 8191 HT_.out ?_
       refine Z.pv 14 30 21 24575 HT_.out ?_
       refine Z.pv 15 31 21 57343 HT_.out ?_
       refine Z.pv 16 32 21 122879 HT_.out ?_
       refine Z.pv 17 33 21 253951 HT_.out ?_
       refine Z.pv 18 34 21 516095 HT_.out ?_
       refine Z.t2 13 29 21 524287 HT_.out HW_.out hHeld ?_
       refine one_ (i := 19) (N := some 35) (Z.mb 21 1048575) rfl rfl (one_of HT_.out (by kernel_rfl)) (by decide) (fun K hK => ?_)
       refine goes_ Try.func28 (by kernel_rfl) rfl #[.agg #[.int .i64 a0_0, .slice A0_1 l0_1.length c0_1], .slice A1 l1.length c1, .int .i64 (Go.bits .or .i64 x13_1 (ji19))] (by rfl) rfl rfl (by (try simp only [List.map_toArray, List.map_cons, List.map_nil]); first | done | (simp only [hji19]; rfl) | rfl | (simp only [List.length_drop, List.length_take]; rfl)) ?_
       with_reducible refine (impl_consents.calls k1 a0_0 _ _ l0_1 _ _ l1 (Go.bits .or .i64 x13_1 (ji19)) false _ ?q1 ?q2 ?q3 ?q4 A20.out).mono ?_
       (case q1 => exact Z.cc HR0_1 HB)
       (case q2 => exact HC0_1.out)
       (case q3 => exact Z.cc HR1 HB)
       (case q4 => exact HC1.out)
       rintro e w29 ⟨rfl, hb⟩
       refine ⟨_, rfl, ?_⟩
       replace HO_7 := Aside0.mk (Kd.R_below (by (with_reducible repeat (first | apply Kd.R_alloc | apply Kd.R_drewN | apply Kd.R_drew)); exact HO_7.out) hb)
       replace BK408 := Z.bb BK408 hb
       replace HB := Z.st (Z.bs HB.out GE408.out) hb
       (try clear hb)
       (try clear hb2)
       (try clear hk)
       (try clear hi)
       refine hK.out _ _ ⟨(blk_cell BK408.out 0).trans rfl, (blk_cell BK408.out 1).trans rfl⟩ (fun hHeld => ?_)
       clear hK K
       refine Z.nm ?_
       refine Z.pv 20 36 21 2097151 HT_.out ?_
       refine done_ (done_of HT_.out (by kernel_rfl)) ?_
       try go_wp2
       go_roundg k1
       case measure => have := HK1.out; omega
       case rel => exact ⟨(x7_1), (wrap64 (x13_1 + 1)), (by first | rfl | (simp; done) | (simp [*]; done)), H', ⟨by have := HK1.out; omega⟩, ⟨by (with_reducible repeat (first | apply Kd.R_alloc | apply Kd.R_drewN | apply Kd.R_drew)); exact HO_7.out⟩, ⟨by (with_reducible repeat (first | refine blk_drewN ?_ _ | refine blk_drew ?_ | refine blk_alloc ?_ _)); exact BK408.out⟩, ⟨Z.bs HB.out GE408.out⟩⟩
    ·rw [if_neg c13] at H
     have c13b0 : ((Go.bits .and .i64 (ji12) 1) == 0) = false := beq_eq_false_iff_ne.mpr c13
     have c13b1 : ((Go.bits .and .i64 (ji12) 1) != 0) = true := bne_iff_ne.mpr c13
     have H' := Aside0.mk H
     clear H
     try go_wp2
     replace HO_7 := Aside0.mk (Kd.R_drew HO_7.out)
     replace BK408 := Aside0.mk (blk_drew BK408.out)
     replace HB := Aside0.mk (below_drew1 HB.out)
     refine start_ (n := 21) (S := fun w' => True) (ds := []) #[false, false, false, false, false, false, false, false, false, false, false, false, false, false, false, false, false, false, false, false, false] (by kernel_rfl) rfl rfl trivial (fun hHeld => ?_); refine with_tabW impl_swingsOf.tab5 impl_swingsOf.bits5 (fun HT_ HW_ => ?_)
     generalize wr.drew = w30 at HO_7 BK408 HB hHeld ⊢
     refine Z.pv 0 16 21 1 HT_.out ?_
     refine Z.pv 1 17 21 3 HT_.out ?_
     refine Z.pv 2 18 21 7 HT_.out ?_
     refine Z.pv 3 19 21 15 HT_.out ?_
     refine Z.pv 4 20 21 31 HT_.out ?_
     refine Z.pv 5 21 21 63 HT_.out ?_
     refine Z.pu 6 22 21 127 HT_.out ?_
     refine Z.pu 7 23 21 255 HT_.out ?_
     refine Z.pu 8 24 21 511 HT_.out ?_
     refine Z.pu 9 25 21 1023 HT_.out ?_
     refine Z.pu 10 26 21 2047 HT_.out ?_
     refine Z.pv 11 27 21 4095 HT_.out ?_
     refine Z.pv 12 28 21 8191 HT_.out ?_
     refine Z.pu 13 29 21 16383 HT_.out ?_
     refine Z.pu 14 30 21 32767 HT_.out ?_
     refine Z.pu 15 31 21 65535 HT_.out ?_
     refine Z.pu 16 32 21 131071 HT_.out ?_
     refine Z.pu 17 33 21 262143 HT_.out ?_
     refine Z.pu 18 34 21 524287 HT_.out ?_
     refine Z.pu 19 35 21 1048575 HT_.out ?_
     refine Z.pv 20 36 21 2097151 HT_.out ?_
     refine done_ (done_of HT_.out (by kernel_rfl)) ?_
     try go_wp2
     go_roundg k1
     case measure => have := HK1.out; omega
     case rel => exact ⟨(x7_1), (wrap64 (x13_1 + 1)), (by first | rfl | (simp; done) | (simp [*]; done)), H', ⟨by have := HK1.out; omega⟩, ⟨by (with_reducible repeat (first | apply Kd.R_alloc | apply Kd.R_drewN | apply Kd.R_drew)); exact HO_7.out⟩, ⟨by (with_reducible repeat (first | refine blk_drewN ?_ _ | refine blk_drew ?_ | refine blk_alloc ?_ _)); exact BK408.out⟩, ⟨Z.bs HB.out GE408.out⟩⟩
   ·rw [if_neg c10] at H
    have c10b0 := decide_eq_false c10
    clear c10
    obtain rfl := Option.some.inj H
    go_wp2
    go_ret
    exact ⟨_, by first | rfl | (simp [errW_none, errW_some] <;> rfl) | (simp only [← hji5]; first | rfl | (simp [errW_none, errW_some] <;> rfl)) | (simp [*, errW_none, errW_some] <;> rfl), by (with_reducible repeat (first | apply Kd.R_alloc | apply Kd.R_drewN | apply Kd.R_drew)); exact HO_7.out, Z.bs HB.out GE408.out⟩
end Go.Proofs.Ytenjngocdinfmaa.PAll

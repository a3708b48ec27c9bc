/- Walks of functions that All reaches, in the form of the print. -/
-- PRINTED
import Derived.Test.YtcafckapdgaogaaCAll32
namespace Go.Proofs.Ytcafckapdgaogaa.PAll
open Go.RowKit Go.Proofs.YtcafckapdgaogaaW.PrintWords Go.Proofs.YtcafckapdgaogaaW.PrintLast Go.Proofs.YtcafckapdgaogaaW.PrintMore
attribute [local go_sem] max2_int min2_int max_two min_two max_three min_three max_four min_four
set_option linter.unusedVariables false
set_option linter.unusedSimpArgs false

/-! ### spec_FixedOf: function 47 -/
mutual
def spec_FixedOf.l0 : Nat → List Int → List Int → List Int → Int → Int → List Int → List (List (S86)) → Option (List Int)
 | 0, _, _, _, _, _, _, _ => none
 | k + 1, x1, x5, x6, x7, x1106000, x1106001, x1106002 => if x7 < (x1106002.length : Int) then (spec_FixedOf.l1 k x1 x5 x6 x7 true 0 x1106000 x1106001 x1106002) else (some x5)
def spec_FixedOf.l1 : Nat → List Int → List Int → List Int → Int → Bool → Int → Int → List Int → List (List (S86)) → Option (List Int)
 | 0, _, _, _, _, _, _, _, _, _ => none
 | k + 1, x1, x5, x6, x7, x8, x9, x1106000, x1106001, x1106002 => if x9 < (x6.length : Int) then (if x8 = true then (if 0 ≤ x9 then (if (rd x6 x9) < 0 then (spec_FixedOf.l1 k x1 x5 x6 x7 true (wrap64 (x9 + 1)) x1106000 x1106001 x1106002) else ((spec_l8State.f k x1106000 x1106001 x1106002 x9).bind fun t1115 => (if 0 ≤ x7 then (if x7 < (t1115.length : Int) then (if x7 < (x1.length : Int) then (spec_FixedOf.l1 k x1 x5 x6 x7 ((rd t1115 x7) == (rd x1 x7)) (wrap64 (x9 + 1)) x1106000 x1106001 x1106002) else (none)) else (none)) else (none)))) else (none)) else (spec_FixedOf.l1 k x1 x5 x6 x7 false (wrap64 (x9 + 1)) x1106000 x1106001 x1106002)) else (if x8 = true then (if x5.length < 17592186044416 then (spec_FixedOf.l0 k x1 (x5 ++ [x7]) x6 (wrap64 (x7 + 1)) x1106000 x1106001 x1106002) else (none)) else (spec_FixedOf.l0 k x1 x5 x6 (wrap64 (x7 + 1)) x1106000 x1106001 x1106002))
end
def spec_FixedOf.f (k : Nat) (a0_0 : Int) (l0_1 : List Int) (l0_2 : List (List (S86))) (l1 : List Int) : Option (List Int) := (some (([] : List Int) : List Int)).bind fun y1106 => ((spec_StateOk.f k a0_0 l0_1 l0_2 l1).bind fun t1109 => (if t1109 = true then ((spec_l8Code.f k l1).bind fun t1110 => (if 0 ≤ a0_0 then ((spec_l8Reach.f k a0_0 l0_1 l0_2 t1110 (wrap64 ((shl .i64 1 a0_0) - 1))).bind fun t1111 => (spec_FixedOf.l0 k l1 y1106 t1111 0 a0_0 l0_1 l0_2)) else (none))) else (some y1106)))
def spec_FixedOf.T4 : Bool × List (List Nat × List Nat) := (true, [([], []), ([], []), ([1], [1]), ([], []), ([3], [3]), ([4], [4]), ([5], [5]), ([6], [6]), ([0, 2, 7, 2], [0, 2, 7]), ([8, 8, 0, 1, 2, 3, 4, 5, 6, 7, 8], [8])])
def spec_FixedOf.B4 : List Nat := [0, 0, 2, 0, 8, 24, 56, 120, 255, 511]
theorem spec_FixedOf.tab4 : rtab .any (opsOf Try.f47 4) = spec_FixedOf.T4 := by kernel_rfl
theorem spec_FixedOf.bits4 : waitsOk spec_FixedOf.T4.2 spec_FixedOf.B4 = true := by kernel_rfl
def spec_FixedOf.T12 : Bool × List (List Nat × List Nat) := (true, [([], []), ([0], [0]), ([1], [1]), ([1], [1]), ([2, 3, 1], [1, 2, 3]), ([4, 1], [1, 4]), ([5, 1], [1, 5]), ([6, 1, 1], [1, 6]), ([7], [7]), ([7], [7]), ([8, 9, 7, 7], [7, 8, 9]), ([7], [7]), ([10, 11, 7], [7, 10, 11]), ([12, 7], [7, 12]), ([7], [7]), ([7], [7]), ([14, 15, 7], [7, 14, 15]), ([16, 7], [7, 16]), ([13, 17, 7], [7, 13, 17]), ([7, 18, 1], [1, 7, 18]), ([1, 19], [1, 19]), ([20, 10, 0, 1, 2, 3, 4, 5, 6, 7, 8, 9, 10, 11, 12, 13, 14, 15, 16, 17, 18, 19, 20], [0, 20])])
def spec_FixedOf.B12 : List Nat := [0, 1, 3, 3, 15, 31, 63, 127, 255, 255, 1023, 255, 4095, 8191, 255, 255, 49407, 114943, 262143, 524287, 1048575, 2097151]
theorem spec_FixedOf.tab12 : rtab .any (opsOf Try.f47 12) = spec_FixedOf.T12 := by kernel_rfl
theorem spec_FixedOf.bits12 : waitsOk spec_FixedOf.T12.2 spec_FixedOf.B12 = true := by kernel_rfl
set_option maxHeartbeats 8000000 in
set_option maxRecDepth 100000 in
theorem spec_FixedOf.calls (k : Nat) (a0_0 : Int) (A0_1 : Option Addr) (c0_1 : Nat) (l0_1 : List Int) (A0_2 : Option Addr) (c0_2 : Nat) (l0_2 : List (List (S86))) (A1 : Option Addr) (c1 : Nat) (l1 : List Int) (r : List Int) (w : World) (hr0_1 : Kd.C (Kd.int .i64) w A0_1 l0_1.length l0_1) (hc0_1 : l0_1.length ≤ c0_1) (hr0_2 : Kd.C (Kd.slice 86 k86) w A0_2 l0_2.length l0_2) (hc0_2 : l0_2.length ≤ c0_2) (hr1 : Kd.C (Kd.int .i64) w A1 l1.length l1) (hc1 : l1.length ≤ c1) (h : spec_FixedOf.f k a0_0 l0_1 l0_2 l1 = some r) :
  Calls Try.prog 47 #[.agg #[.int .i64 a0_0, .slice A0_1 l0_1.length c0_1, .slice A0_2 l0_2.length c0_2], .slice A1 l1.length c1] w fun e w' => ∃ v0_ : Value, e = .returned (v0_) ∧ Kd.R (Kd.int .i64) 3 w' w.heap.size (fun _ => True) v0_ r ∧ Below w.heap.size w w' := by
 have hu35 := Try.underlying35
 have HR0_1 := Aside0.mk hr0_1
 have HC0_1 := Aside0.mk hc0_1
 clear hr0_1 hc0_1
 have HR0_2 := Aside0.mk hr0_2
 have HC0_2 := Aside0.mk hc0_2
 clear hr0_2 hc0_2
 have HR1 := Aside0.mk hr1
 have HC1 := Aside0.mk hc1
 clear hr1 hc1
 have HB := Aside0.mk (Below.refl w.heap.size w)
 have H := h
 clear h
 unfold spec_FixedOf.f at H
 obtain ⟨y1106, hy1106⟩ : ∃ y_ : List Int, y_ = (([] : List Int)) := ⟨_, rfl⟩
 replace H : ((spec_StateOk.f k a0_0 l0_1 l0_2 l1).bind fun t1109 => (if t1109 = true then ((spec_l8Code.f k l1).bind fun t1110 => (if 0 ≤ a0_0 then ((spec_l8Reach.f k a0_0 l0_1 l0_2 t1110 (wrap64 ((shl .i64 1 a0_0) - 1))).bind fun t1111 => (spec_FixedOf.l0 k l1 y1106 t1111 0 a0_0 l0_1 l0_2)) else (none))) else (some y1106))) = some r := by (have H2_ := (Option.bind_some _ _).symm.trans H; rw [hy1106]; with_reducible exact H2_)
 have Ny1106 := Aside0.mk hy1106
 clear hy1106
 replace H := Option.bind_eq_some_iff.mp H
 obtain ⟨t1109, A30, H⟩ := H
 have A3 := Aside0.mk A30
 clear A30
 by_cases c4 : t1109 = true
 ·subst c4
  rw [if_pos rfl] at H
  replace H := Option.bind_eq_some_iff.mp H
  obtain ⟨t1110, A50, H⟩ := H
  have A5 := Aside0.mk A50
  clear A50
  obtain ⟨c6, H⟩ := Z.ifp H
  have c6b0 := eq_true c6
  have c6b1 : decide (0 ≤ a0_0) = true := decide_eq_true c6
  clear c6
  obtain ⟨ji7, hji7⟩ : ∃ j_ : Int, (shl .i64 1 a0_0) = j_ := ⟨_, rfl⟩
  replace H : ((spec_l8Reach.f k a0_0 l0_1 l0_2 t1110 (wrap64 ((ji7) - 1))).bind fun t1111 => (spec_FixedOf.l0 k l1 y1106 t1111 0 a0_0 l0_1 l0_2)) = some r := by (rw [hji7] at H; exact H)
  have hji7_ : (IntKind.i64.wrap (1 * 2 ^ min a0_0.toNat 64)) = ji7 := hji7
  have hji7z : a0_0 ≤ 64 → (IntKind.i64.wrap (1 * 2 ^ a0_0.toNat)) = ji7 := shl_small hji7
  have hji7u : (IntKind.i64.wrap (2 ^ min a0_0.toNat 64)) = ji7 := by have h_ := hji7_; rw [Int.one_mul] at h_; exact h_
  have hji7v : a0_0 ≤ 64 → (IntKind.i64.wrap (2 ^ a0_0.toNat)) = ji7 := fun hle_ => by have h_ := hji7z hle_; rw [Int.one_mul] at h_; exact h_
  have hji7y : (wrap64 (1 * 2 ^ min a0_0.toNat 64)) = ji7 := (i64_w _).symm.trans hji7_
  have hji7x : a0_0 ≤ 64 → (wrap64 (1 * 2 ^ a0_0.toNat)) = ji7 := fun h_ => (i64_w _).symm.trans (hji7z h_)
  replace H := Option.bind_eq_some_iff.mp H
  obtain ⟨t1111, A80, H⟩ := H
  have A8 := Aside0.mk A80
  clear A80
  have H' := Aside0.mk H
  clear H
  go_enter Try.func47, Try.ntmps47
  try go_wp2_with (first | ((with_reducible refine gate_dst (N := 2) rfl ?_); refine Z.bx #[.int .i64 a0_0, .slice A0_1 l0_1.length c0_1, .slice A0_2 l0_2.length c0_2] 35 HB ?_; clear HB; intro gb1105 w9 BK1105 GE1105 HB hg hb; have GW1105 := GE1105; clear hb hg) | ((with_reducible refine gate_dst (N := 10) rfl ?_); refine Kd.R_lit (Kd.int .i64) _ 3 ?hg (N := 10) ?hd (xs := ([] : List Int)) (inner := []) (ok := fun _ => True) (okp := fun _ => True) ?hr ?hp (fun _ hk => hk) trivial (Below.refl _ _) (Nat.le_refl _) (by simp) ?_; (case hd | hg => rfl); (case hr => (go_simp; done)); (case hp => exact (Reps.none _ _)); intro v1107 w10 ho11 hb hg_ hnew_; clear hg_ hnew_; (rw [← Ny1106.out] at ho11); have HO1108 := Aside0.mk (Kd.R_lower ho11 (below_size (Z.bs HB.out GE1105.out))); replace BK1105 := Z.bb BK1105 hb; replace HB := Z.st (Z.bs HB.out GE1105.out) hb; clear hb ho11; have hcz12 := Z.c3 BK1105.out) | ((with_reducible refine gate_callee (f := 61) rfl ?_); refine goesL_ (some 13) rfl rfl Try.func61 (by kernel_rfl) rfl #[.agg #[.int .i64 a0_0, .slice A0_1 l0_1.length c0_1, .slice A0_2 l0_2.length c0_2], .slice A1 l1.length c1] rfl Z.ar ?_; (with_reducible refine (spec_StateOk.calls k a0_0 _ _ l0_1 _ _ l0_2 _ _ l1 true _ ?q1 ?q2 ?q3 ?q4 ?q5 ?q6 A3.out).mono ?_); (case q1 => exact Z.cc HR0_1 HB); (case q2 => exact HC0_1.out); (case q3 => exact Z.cc HR0_2 HB); (case q4 => exact HC0_2.out); (case q5 => exact Z.cc HR1 HB); (case q6 => exact HC1.out); rintro e w13 ⟨rfl, hb⟩; refine ⟨_, rfl, ?_⟩; replace HO1108 := Aside0.mk (Kd.R_below (by (with_reducible skip); exact HO1108.out) hb); replace BK1105 := Z.bb BK1105 hb; replace HB := Z.st (Z.bs HB.out GE1105.out) hb; (try clear hb)))
  replace HO1108 := Aside0.mk (Kd.R_drew HO1108.out)
  replace BK1105 := Aside0.mk (blk_drew BK1105.out)
  replace HB := Aside0.mk (below_drew1 HB.out)
  refine start_ (n := 10) (S := fun w' => w'.cell? ⟨gb1105, 0, none⟩ = some (.int .i64 a0_0) ∧ w'.cell? ⟨gb1105, 1, none⟩ = some (.slice A0_1 l0_1.length c0_1) ∧ w'.cell? ⟨gb1105, 2, none⟩ = some (.slice A0_2 l0_2.length c0_2)) (ds := []) #[false, false, false, false, false, false, false, false, false, false] (by kernel_rfl) rfl rfl ⟨(blk_cell BK1105.out 0).trans rfl, (blk_cell BK1105.out 1).trans rfl, (blk_cell BK1105.out 2).trans rfl⟩ (fun hHeld => ?_); refine with_tabW spec_FixedOf.tab4 spec_FixedOf.bits4 (fun HT_ HW_ => ?_)
  generalize w13.drew = w14 at HO1108 BK1105 HB hHeld ⊢
  refine Z.pv 1 17 10 2 HT_.out ?_
  refine Z.pv 3 19 10 10 HT_.out ?_
  refine Z.pv 4 20 10 26 HT_.out ?_
  refine Z.t3 0 16 10 27 HT_.out HW_.out hHeld ?_
  refine Z.t3 5 21 10 59 HT_.out HW_.out hHeld ?_
  refine Z.pv 6 22 10 123 HT_.out ?_
  refine Z.pv 7 23 10 251 HT_.out ?_
  refine one_ (i := 2) (N := some 18) (Z.mb 10 255) rfl rfl (one_of HT_.out (by kernel_rfl)) (by decide) (fun K hK => ?_)
  refine goes_ Try.func77 (by kernel_rfl) rfl #[.slice A1 l1.length c1] (by rfl) rfl rfl Z.ar ?_
  with_reducible refine (spec_l8Code.calls k _ _ l1 t1110 _ ?q1 ?q2 A5.out).mono ?_
  (case q1 => exact Z.cc HR1 HB)
  (case q2 => exact HC1.out)
  rintro e w' ⟨rfl, ⟨nd, rfl⟩⟩
  refine ⟨_, rfl, ?_⟩
  refine hK.out _ _ ⟨(blk_cell BK1105.out 0).trans rfl, (blk_cell BK1105.out 1).trans rfl, (blk_cell BK1105.out 2).trans rfl⟩ (fun hHeld => ?_)
  clear hK K
  refine Z.nm ?_
  refine one_ (i := 8) (N := some 24) (Z.mb 10 511) rfl rfl (one_of HT_.out (by kernel_rfl)) (by decide) (fun K hK => ?_)
  refine goes_ Try.func86 (by kernel_rfl) rfl #[.agg #[.int .i64 a0_0, .slice A0_1 l0_1.length c0_1, .slice A0_2 l0_2.length c0_2], .int .i64 t1110, .int .i64 (wrap64 ((ji7) - 1))] (by rfl) rfl rfl (by (try simp only [List.map_toArray, List.map_cons, List.map_nil]); rfl) ?_
  with_reducible refine (spec_l8Reach.calls k a0_0 _ _ l0_1 _ _ l0_2 t1110 (wrap64 ((ji7) - 1)) t1111 _ ?q1 ?q2 ?q3 ?q4 A8.out).mono ?_
  (case q1 => repeat (exact (Kd.C_below HR0_1.out (Z.bs HB.out GE1105.out))))
  (case q2 => exact HC0_1.out)
  (case q3 => repeat (exact (Kd.C_below HR0_2.out (Z.bs HB.out GE1105.out))))
  (case q4 => exact HC0_2.out)
  rintro e w15 ⟨v1112, rfl, ho0, hb⟩
  refine ⟨_, rfl, ?_⟩
  have HO1113 := Aside0.mk (Kd.R_lower (Kd.R_new' ho0 (Kd.R_lt (by (with_reducible repeat (apply Kd.R_drewN)); exact HO1108.out))) (below_size (Z.bs HB.out GE1105.out)))
  replace HO1108 := Aside0.mk (Kd.R_elder' (by (with_reducible repeat (apply Kd.R_drewN)); exact HO1108.out) (Kd.R_base ho0) hb)
  replace BK1105 := Z.bb BK1105 hb
  replace HB := Z.st (Z.bs HB.out GE1105.out) hb
  (try clear hb)
  (try clear ho0)
  refine hK.out _ _ ⟨(blk_cell BK1105.out 0).trans rfl, (blk_cell BK1105.out 1).trans rfl, (blk_cell BK1105.out 2).trans rfl⟩ (fun hHeld => ?_)
  clear hK K
  refine Z.nm ?_
  refine Z.pv 9 6 10 1023 HT_.out ?_
  refine done_ (done_of HT_.out (by kernel_rfl)) ?_
  try go_wp2
  go_loopg [5, 7] k (fun kq v5 v7 w' => ∃ (x5_1 : List Int) (x7_1 : Int), v7 = .int .i64 x7_1 ∧ Aside0 (spec_FixedOf.l0 kq l1 x5_1 t1111 x7_1 a0_0 l0_1 l0_2 = some r) ∧ Aside0 (kq ≤ k) ∧ Aside0 (Kd.R (Kd.int .i64) 3 w' w.heap.size (fun k_ => some k_ ≠ (v1112 : Value).ownBlock) v5 x5_1) ∧ Aside0 (Kd.R (Kd.int .i64) 3 w' w.heap.size (fun k_ => some k_ ≠ (v5 : Value).ownBlock) v1112 t1111) ∧ Aside0 (w'.heap[gb1105]? = some (.cells #[.int .i64 a0_0, (.slice A0_1 l0_1.length c0_1), (.slice A0_2 l0_2.length c0_2)] 35 (0, 0))) ∧ Aside0 (Below w.heap.size w w'))
  case atStart => exact ⟨(y1106), (0), (by rfl), H', ⟨Nat.le_refl _⟩, ⟨by (with_reducible skip); exact Kd.R_mono HO1108.out (fun _ hk => hk.2)⟩, ⟨by (with_reducible skip); exact Kd.R_mono HO1113.out (fun _ hk => hk.2)⟩, ⟨by (with_reducible skip); exact BK1105.out⟩, ⟨Z.bs HB.out GE1105.out⟩⟩
  case round =>
   clear H'
   try clear c6b0
   try clear c6b1
   obtain ⟨x5_1, x7_1, rfl, HA, HK1, HO_5, HO_6, BK1105, HB⟩ := hrel
   cases gk with
   | zero => exact absurd HA.out (by simp [spec_FixedOf.l0])
   | succ k1 =>
    have H := HA.out
    clear HA
    simp only [spec_FixedOf.l0] at H
    by_cases c16 : x7_1 < (l0_2.length : Int)
    ·rw [if_pos c16] at H
     have c16b0 := decide_eq_true c16
     clear c16
     have H' := Aside0.mk H
     clear H
     have hcz17 := Z.c3 BK1105.out
     go_wp2
     go_loopg [8, 9] k1 (fun kq v8 v9 w' => ∃ (x8_2 : Bool) (x9_2 : Int), v8 = .bool x8_2 ∧ v9 = .int .i64 x9_2 ∧ Aside0 (spec_FixedOf.l1 kq l1 x5_1 t1111 x7_1 x8_2 x9_2 a0_0 l0_1 l0_2 = some r) ∧ Aside0 (kq ≤ k1) ∧ Aside0 (Kd.R (Kd.int .i64) 3 w' w.heap.size (fun k_ => some k_ ≠ (v1112 : Value).ownBlock) u5 x5_1) ∧ Aside0 (Kd.R (Kd.int .i64) 3 w' w.heap.size (fun k_ => some k_ ≠ (u5 : Value).ownBlock) v1112 t1111) ∧ Aside0 (w'.heap[gb1105]? = some (.cells #[.int .i64 a0_0, (.slice A0_1 l0_1.length c0_1), (.slice A0_2 l0_2.length c0_2)] 35 (0, 0))) ∧ Aside0 (Below w.heap.size w w'))
     case atStart => exact ⟨(true), (0), (by rfl), (by rfl), H', ⟨Nat.le_refl _⟩, ⟨by (with_reducible skip); exact HO_5.out⟩, ⟨by (with_reducible skip); exact HO_6.out⟩, ⟨by (with_reducible skip); exact BK1105.out⟩, ⟨Z.bs HB.out GE1105.out⟩⟩
     case round =>
      clear H'
      try clear c16b0
      obtain ⟨x8_2, x9_2, rfl, rfl, HA, HK2, HO_5, HO_6, BK1105, HB⟩ := hrel
      cases gk with
      | zero => exact absurd HA.out (by simp [spec_FixedOf.l1])
      | succ k2 =>
       have H := HA.out
       clear HA
       simp only [spec_FixedOf.l1] at H
       by_cases c18 : x9_2 < (t1111.length : Int)
       ·rw [if_pos c18] at H
        have c18b0 := decide_eq_true c18
        clear c18
        by_cases c19 : x8_2 = true
        ·subst c19
         rw [if_pos rfl] at H
         obtain ⟨c20, H⟩ := Z.ifp H
         have c20b0 : decide (0 ≤ x9_2) = true := decide_eq_true c20
         clear c20
         by_cases c21 : (rd t1111 x9_2) < 0
         ·rw [if_pos c21] at H
          have c21b0 := decide_eq_true c21
          clear c21
          have H' := Aside0.mk H
          clear H
          obtain ⟨Ao22, co22, eo22⟩ := Kd.R_slice HO_6.out
          subst eo22
          try go_wp2
          replace HO_5 := Aside0.mk (Kd.R_drew HO_5.out)
          replace HO_6 := Aside0.mk (Kd.R_drew HO_6.out)
          replace BK1105 := Aside0.mk (blk_drew BK1105.out)
          replace HB := Aside0.mk (below_drew1 HB.out)
          have p1114 : 0 ≤ (x9_2 : Int) := Z.od
          have q1114 : x9_2 < (t1111.length : Int) := Z.od
          obtain ⟨ad1114, e1114, hx1114_0⟩ := Kd.at_int (Kd.R_reads' HO_6.out).2.2 x9_2 p1114 q1114
          cases e1114
          replace p1114 := eq_true p1114
          replace q1114 := eq_true q1114
          refine start_ (n := 22) (S := fun w' => w'.cell? (ad1114.add (x9_2).toNat) = some (.int .i64 (rd t1111 x9_2))) (ds := []) #[false, false, false, false, false, false, false, false, false, false, false, false, false, false, false, false, false, false, false, false, false, false] (by kernel_rfl) rfl rfl (hx1114_0) (fun hHeld => ?_); refine with_tabW spec_FixedOf.tab12 spec_FixedOf.bits12 (fun HT_ HW_ => ?_)
          generalize wr.drew = w23 at HO_5 HO_6 BK1105 HB hx1114_0 hHeld ⊢
          refine Z.pv 0 38 22 1 HT_.out ?_
          refine Z.pv 1 39 22 3 HT_.out ?_
          refine Z.pv 2 40 22 7 HT_.out ?_
          refine Z.pv 3 41 22 15 HT_.out ?_
          refine Z.pv 4 42 22 31 HT_.out ?_
          refine take_ (i := 5) (N := some 43) (v := ?_) (a' := ?_) #[true, true, true, true, true, true, false, false, false, false, false, false, false, false, false, false, false, false, false, false, false, false] rfl rfl (take_ofW HT_.out HW_.out (by kernel_rfl)) (fun _ _ _ h => h) (Or.inl ⟨by rfl, ?_⟩) hHeld ?_ ?_
          rotate_left
          ·intro w' s0
           go_simp
           with_reducible rfl
          rotate_left
          ·simp only [Act.put, List.setIfInBounds_toArray, List.set_cons_zero, List.set_cons_succ, i64_w, i32_w]
           rfl
          refine Z.pv 6 44 22 127 HT_.out ?_
          refine Z.pv 7 45 22 255 HT_.out ?_
          refine Z.pu 8 46 22 511 HT_.out ?_
          refine Z.pu 9 47 22 1023 HT_.out ?_
          refine Z.pu 10 48 22 2047 HT_.out ?_
          refine Z.pu 11 49 22 4095 HT_.out ?_
          refine Z.pu 12 50 22 8191 HT_.out ?_
          refine Z.pu 13 51 22 16383 HT_.out ?_
          refine Z.pu 14 52 22 32767 HT_.out ?_
          refine Z.pu 15 53 22 65535 HT_.out ?_
          refine Z.pu 16 54 22 131071 HT_.out ?_
          refine Z.pu 17 55 22 262143 HT_.out ?_
          refine Z.pu 18 56 22 524287 HT_.out ?_
          refine Z.pv 19 57 22 1048575 HT_.out ?_
          refine Z.pv 20 58 22 2097151 HT_.out ?_
          refine Z.pv 21 8 22 4194303 HT_.out ?_
          refine done_ (done_of HT_.out (by kernel_rfl)) ?_
          try go_wp2
          go_roundg k2
          case measure => have := HK1.out; have := HK2.out; omega
          case rel => exact ⟨(true), (wrap64 (x9_2 + 1)), (by rfl), (by rfl), H', ⟨by have := HK1.out; have := HK2.out; omega⟩, ⟨by (with_reducible skip); exact HO_5.out⟩, ⟨by (with_reducible skip); exact HO_6.out⟩, ⟨by (with_reducible skip); exact BK1105.out⟩, ⟨Z.bs HB.out GE1105.out⟩⟩
         ·rw [if_neg c21] at H
          have c21b0 := decide_eq_false c21
          clear c21
          replace H := Option.bind_eq_some_iff.mp H
          obtain ⟨t1115, A240, H⟩ := H
          have A24 := Aside0.mk A240
          clear A240
          obtain ⟨c25, H⟩ := Z.ifp H
          have c25b0 : decide (0 ≤ x7_1) = true := decide_eq_true c25
          clear c25
          obtain ⟨c26, H⟩ := Z.ifp H
          have c26b0 : decide (x7_1 < (t1115.length : Int)) = true := decide_eq_true c26
          clear c26
          obtain ⟨c27, H⟩ := Z.ifp H
          have c27b0 : decide (x7_1 < (l1.length : Int)) = true := decide_eq_true c27
          clear c27
          have H' := Aside0.mk H
          clear H
          obtain ⟨Ao28, co28, eo28⟩ := Kd.R_slice HO_6.out
          subst eo28
          try go_wp2
          replace HO_5 := Aside0.mk (Kd.R_drew HO_5.out)
          replace HO_6 := Aside0.mk (Kd.R_drew HO_6.out)
          replace BK1105 := Aside0.mk (blk_drew BK1105.out)
          replace HB := Aside0.mk (below_drew1 HB.out)
          have p1114 : 0 ≤ (x9_2 : Int) := Z.od
          have q1114 : x9_2 < (t1111.length : Int) := Z.od
          obtain ⟨ad1114, e1114, hx1114_0⟩ := Kd.at_int (Kd.R_reads' HO_6.out).2.2 x9_2 p1114 q1114
          cases e1114
          replace p1114 := eq_true p1114
          replace q1114 := eq_true q1114
          have p1119 : 0 ≤ (x7_1 : Int) := Z.od
          have q1119 : x7_1 < (l1.length : Int) := Z.od
          obtain ⟨ad1119, rfl, hx1119_0⟩ := Kd.at_int HR1.out x7_1 p1119 q1119
          have hw1119_0 := hx1119_0
          replace hx1119_0 := Z.up HB.out hx1119_0
          replace p1119 := eq_true p1119
          replace q1119 := eq_true q1119
          refine start_ (n := 22) (S := fun w' => w'.cell? ⟨gb1105, 0, none⟩ = some (.int .i64 a0_0) ∧ w'.cell? ⟨gb1105, 1, none⟩ = some (.slice A0_1 l0_1.length c0_1) ∧ w'.cell? ⟨gb1105, 2, none⟩ = some (.slice A0_2 l0_2.length c0_2) ∧ w'.cell? (ad1114.add (x9_2).toNat) = some (.int .i64 (rd t1111 x9_2)) ∧ w'.cell? (ad1119.add (x7_1).toNat) = some (.int .i64 (rd l1 x7_1))) (ds := []) #[false, false, false, false, false, false, false, false, false, false, false, false, false, false, false, false, false, false, false, false, false, false] (by kernel_rfl) rfl rfl ⟨(blk_cell BK1105.out 0).trans rfl, (blk_cell BK1105.out 1).trans rfl, (blk_cell BK1105.out 2).trans rfl, hx1114_0, (Z.up HB.out hw1119_0 :)⟩ (fun hHeld => ?_); refine with_tabW spec_FixedOf.tab12 spec_FixedOf.bits12 (fun HT_ HW_ => ?_)
          generalize wr.drew = w29 at HO_5 HO_6 BK1105 HB hx1114_0 hx1119_0 hHeld ⊢
          refine Z.pv 0 38 22 1 HT_.out ?_
          refine Z.pv 1 39 22 3 HT_.out ?_
          refine Z.pv 2 40 22 7 HT_.out ?_
          refine Z.pv 3 41 22 15 HT_.out ?_
          refine Z.pv 4 42 22 31 HT_.out ?_
          refine Z.t5 5 43 22 63 HT_.out HW_.out hHeld ?_
          refine Z.pv 6 44 22 127 HT_.out ?_
          refine Z.pv 7 45 22 255 HT_.out ?_
          refine Z.pv 9 47 22 767 HT_.out ?_
          refine Z.pv 11 49 22 2815 HT_.out ?_
          refine Z.pv 14 52 22 19199 HT_.out ?_
          refine Z.pv 15 53 22 51967 HT_.out ?_
          refine Z.pv 16 54 22 117503 HT_.out ?_
          refine Z.t5 8 46 22 117759 HT_.out HW_.out hHeld ?_
          refine Z.t5 17 55 22 248831 HT_.out HW_.out hHeld ?_
          refine one_ (i := 10) (N := some 48) (Z.mb 22 249855) rfl rfl (one_of HT_.out (by kernel_rfl)) (by decide) (fun K hK => ?_)
          refine goes_ Try.func90 (by kernel_rfl) rfl #[.agg #[.int .i64 a0_0, .slice A0_1 l0_1.length c0_1, .slice A0_2 l0_2.length c0_2], .int .i64 x9_2] (by rfl) rfl rfl Z.ar ?_
          with_reducible refine (spec_l8State.calls k2 a0_0 _ _ l0_1 _ _ l0_2 x9_2 t1115 _ ?q1 ?q2 ?q3 ?q4 A24.out).mono ?_
          (case q1 => exact Z.cc HR0_1 HB)
          (case q2 => exact HC0_1.out)
          (case q3 => exact Z.cc HR0_2 HB)
          (case q4 => exact HC0_2.out)
          rintro e w30 ⟨v1116, rfl, ho0, hb⟩
          have HS3_ := (hb.cell (World.block_lt_of_cell? _ _ (hHeld.2.2.2.1))).trans (hHeld.2.2.2.1)
          refine ⟨_, rfl, ?_⟩
          have HO1117 := Aside0.mk (Kd.R_lower (Kd.R_new' (Kd.R_new' ho0 (Kd.R_lt (by (with_reducible skip); exact HO_5.out))) (Kd.R_lt (by (with_reducible skip); exact HO_6.out))) (below_size (Z.bs HB.out GE1105.out)))
          replace HO_5 := Aside0.mk (Kd.R_elder' (by (with_reducible skip); exact HO_5.out) (Kd.R_base ho0) hb)
          replace HO_6 := Aside0.mk (Kd.R_elder' (by (with_reducible skip); exact HO_6.out) (Kd.R_base ho0) hb)
          replace BK1105 := Z.bb BK1105 hb
          replace HB := Z.st (Z.bs HB.out GE1105.out) hb
          (try clear hb)
          (try clear ho0)
          obtain ⟨Ao31, co31, eo31⟩ := Kd.R_slice HO1117.out
          (subst eo31)
          have p1118 : 0 ≤ (x7_1 : Int) := Z.od
          have q1118 : x7_1 < (t1115.length : Int) := Z.od
          obtain ⟨ad1118, e1118, hx1118_0⟩ := Kd.at_int (Kd.R_reads' HO1117.out).2.2 x7_1 p1118 q1118
          cases e1118
          replace p1118 := eq_true p1118
          replace q1118 := eq_true q1118
          refine hK.out _ _ ⟨(blk_cell BK1105.out 0).trans rfl, (blk_cell BK1105.out 1).trans rfl, (blk_cell BK1105.out 2).trans rfl, HS3_, (Z.up HB.out hw1119_0 :)⟩ (fun hHeld => ?_)
          clear hK K
          refine Z.nm ?_
          refine Z.pv 12 50 22 253951 HT_.out ?_
          refine one_ (i := 13) (N := some 51) (Z.mb 22 262143) rfl rfl (one_of HT_.out (by kernel_rfl)) (by decide) (fun K hK => ?_)
          refine value_ (v := .int .i64 (rd t1115 x7_1)) rfl rfl (by go_simp; with_reducible rfl) ?_
          refine hK.out _ _ hHeld (fun hHeld => ?_)
          clear hK K
          refine Z.nm ?_
          refine Z.pv 18 56 22 524287 HT_.out ?_
          refine Z.pv 19 57 22 1048575 HT_.out ?_
          refine Z.pv 20 58 22 2097151 HT_.out ?_
          refine Z.pv 21 8 22 4194303 HT_.out ?_
          refine done_ (done_of HT_.out (by kernel_rfl)) ?_
          try go_wp2
          go_roundg k2
          case measure => have := HK1.out; have := HK2.out; omega
          case rel => exact ⟨(((rd t1115 x7_1) == (rd l1 x7_1))), (wrap64 (x9_2 + 1)), (by rfl), (by rfl), H', ⟨by have := HK1.out; have := HK2.out; omega⟩, ⟨by (with_reducible skip); exact Kd.R_mono HO_5.out (fun _ hk => hk.1)⟩, ⟨by (with_reducible skip); exact Kd.R_mono HO_6.out (fun _ hk => hk.1)⟩, ⟨by (with_reducible skip); exact BK1105.out⟩, ⟨Z.bs HB.out GE1105.out⟩⟩
        ·replace c19 := Bool.eq_false_iff.mpr c19
         subst c19
         rw [if_neg (show ¬ (false = true) by decide)] at H
         have H' := Aside0.mk H
         clear H
         obtain ⟨Ao32, co32, eo32⟩ := Kd.R_slice HO_6.out
         subst eo32
         try go_wp2
         replace HO_5 := Aside0.mk (Kd.R_drew HO_5.out)
         replace HO_6 := Aside0.mk (Kd.R_drew HO_6.out)
         replace BK1105 := Aside0.mk (blk_drew BK1105.out)
         replace HB := Aside0.mk (below_drew1 HB.out)
         refine start_ (n := 22) (S := fun w' => True) (ds := []) #[false, false, false, false, false, false, false, false, false, false, false, false, false, false, false, false, false, false, false, false, false, false] (by kernel_rfl) rfl rfl trivial (fun hHeld => ?_); refine with_tabW spec_FixedOf.tab12 spec_FixedOf.bits12 (fun HT_ HW_ => ?_)
         generalize wr.drew = w33 at HO_5 HO_6 BK1105 HB hHeld ⊢
         refine Z.pv 0 38 22 1 HT_.out ?_
         refine Z.pv 1 39 22 3 HT_.out ?_
         refine Z.pu 2 40 22 7 HT_.out ?_
         refine Z.pu 3 41 22 15 HT_.out ?_
         refine Z.pu 4 42 22 31 HT_.out ?_
         refine Z.pu 5 43 22 63 HT_.out ?_
         refine Z.pu 6 44 22 127 HT_.out ?_
         refine Z.pu 7 45 22 255 HT_.out ?_
         refine Z.pu 8 46 22 511 HT_.out ?_
         refine Z.pu 9 47 22 1023 HT_.out ?_
         refine Z.pu 10 48 22 2047 HT_.out ?_
         refine Z.pu 11 49 22 4095 HT_.out ?_
         refine Z.pu 12 50 22 8191 HT_.out ?_
         refine Z.pu 13 51 22 16383 HT_.out ?_
         refine Z.pu 14 52 22 32767 HT_.out ?_
         refine Z.pu 15 53 22 65535 HT_.out ?_
         refine Z.pu 16 54 22 131071 HT_.out ?_
         refine Z.pu 17 55 22 262143 HT_.out ?_
         refine Z.pu 18 56 22 524287 HT_.out ?_
         refine Z.pu 19 57 22 1048575 HT_.out ?_
         refine Z.pv 20 58 22 2097151 HT_.out ?_
         refine Z.pv 21 8 22 4194303 HT_.out ?_
         refine done_ (done_of HT_.out (by kernel_rfl)) ?_
         try go_wp2
         go_roundg k2
         case measure => have := HK1.out; have := HK2.out; omega
         case rel => exact ⟨(false), (wrap64 (x9_2 + 1)), (by rfl), (by rfl), H', ⟨by have := HK1.out; have := HK2.out; omega⟩, ⟨by (with_reducible skip); exact HO_5.out⟩, ⟨by (with_reducible skip); exact HO_6.out⟩, ⟨by (with_reducible skip); exact BK1105.out⟩, ⟨Z.bs HB.out GE1105.out⟩⟩
       ·rw [if_neg c18] at H
        have c18b0 := decide_eq_false c18
        clear c18
        by_cases c34 : x8_2 = true
        ·subst c34
         rw [if_pos rfl] at H
         obtain ⟨c35, H⟩ := Z.ifp H
         have LMc35 := Aside0.mk c35
         clear c35
         obtain ⟨y1120, hy1120⟩ : ∃ y_ : List Int, y_ = (x5_1 ++ [x7_1]) := ⟨_, rfl⟩
         replace H : (spec_FixedOf.l0 k2 l1 y1120 t1111 (wrap64 (x7_1 + 1)) a0_0 l0_1 l0_2) = some r := by (rw [hy1120]; with_reducible exact H)
         have Ny1120 := Aside0.mk hy1120
         clear hy1120
         have H' := Aside0.mk H
         clear H
         obtain ⟨Ao36, co36, eo36⟩ := Kd.R_slice HO_6.out
         subst eo36
         go_wp2_with (((with_reducible refine gate_builtin (b := .append) (xs := #[.tmp 60, .tmp 62]) rfl ?_); at_builtin; refine Kd.R_append (Kd.int .i64) (w0 := w) w.heap.size rfl (.tmp 60) (.tmp 62) 22 3 (.int .i64 0) 8 rfl Try.underlying22 info3 rfl (by decide) (by omega) u5 x5_1 x7_1 [.int .i64 x7_1] (fun k_ => some k_ ≠ (.slice Ao36 t1111.length co36 : Value).ownBlock) (fun _ => False) rfl rfl ?aP (fun _ hk => hk.elim) ?aF ?aO ?aB ?aS ?aL ?_; (case aP => exact rfl); (case aB => exact (Z.bs HB.out GE1105.out)); (case aF => exact (fun k_ hk => Kd.fresh' (Kd.R_lt (by (with_reducible skip); exact HO_6.out)) k_ hk)); (case aO => exact (by (with_reducible skip); exact HO_5.out)); (case aS => exact (below_size (Z.bs HB.out GE1105.out))); (case aL => have := LMc35.out; omega); intro v1121 w37 ho hb hg hat; rw [← Ny1120.out] at ho; replace HO_6 := Aside0.mk (Kd.R_after (ok := (fun _ => True)) (by (with_reducible skip); exact Kd.R_mono HO_6.out (fun _ hk => ⟨trivial, hk⟩)) hg hat); replace BK1105 := Aside0.mk (blk_grown (g := gb1105) (o := .cells #[.int .i64 a0_0, .slice A0_1 l0_1.length c0_1, .slice A0_2 l0_2.length c0_2] 35 (0, 0)) (Z.bk BK1105.out) hg (Kd.R_ne HO_5.out BK1105.out (by decide))); replace HB := Aside0.mk (hb); have HO1122 := Aside0.mk (ho); clear HO_5; clear ho hb hg hat))
         go_roundg k2
         case measure => have := HK1.out; have := HK2.out; omega
         case rel => exact ⟨(y1120), (wrap64 (x7_1 + 1)), (by rfl), H', ⟨by have := HK1.out; have := HK2.out; omega⟩, ⟨by (with_reducible skip); exact HO1122.out⟩, ⟨by (with_reducible skip); exact Kd.R_mono HO_6.out (fun _ hk => hk.2)⟩, ⟨by (with_reducible skip); exact BK1105.out⟩, ⟨Z.bs HB.out GE1105.out⟩⟩
        ·replace c34 := Bool.eq_false_iff.mpr c34
         subst c34
         rw [if_neg (show ¬ (false = true) by decide)] at H
         have H' := Aside0.mk H
         clear H
         obtain ⟨Ao38, co38, eo38⟩ := Kd.R_slice HO_6.out
         subst eo38
         go_wp2
         go_roundg k2
         case measure => have := HK1.out; have := HK2.out; omega
         case rel => exact ⟨(x5_1), (wrap64 (x7_1 + 1)), (by rfl), H', ⟨by have := HK1.out; have := HK2.out; omega⟩, ⟨by (with_reducible skip); exact HO_5.out⟩, ⟨by (with_reducible skip); exact HO_6.out⟩, ⟨by (with_reducible skip); exact BK1105.out⟩, ⟨Z.bs HB.out GE1105.out⟩⟩
    ·rw [if_neg c16] at H
     have c16b0 := decide_eq_false c16
     clear c16
     obtain rfl := Option.some.inj H
     have hcz39 := Z.c3 BK1105.out
     go_wp2
     go_ret
     exact ⟨_, by rfl, by (with_reducible skip); exact Kd.R_mono HO_5.out (fun _ hk => trivial), Z.bs HB.out GE1105.out⟩
 ·replace c4 := Bool.eq_false_iff.mpr c4
  subst c4
  rw [if_neg (show ¬ (false = true) by decide)] at H
  obtain rfl := Option.some.inj H
  go_enter Try.func47, Try.ntmps47
  go_wp2_with (first | ((with_reducible refine gate_dst (N := 2) rfl ?_); refine Z.bx #[.int .i64 a0_0, .slice A0_1 l0_1.length c0_1, .slice A0_2 l0_2.length c0_2] 35 HB ?_; clear HB; intro gb1105 w40 BK1105 GE1105 HB hg hb; have GW1105 := GE1105; clear hb hg) | ((with_reducible refine gate_dst (N := 10) rfl ?_); refine Kd.R_lit (Kd.int .i64) _ 3 ?hg (N := 10) ?hd (xs := ([] : List Int)) (inner := []) (ok := fun _ => True) (okp := fun _ => True) ?hr ?hp (fun _ hk => hk) trivial (Below.refl _ _) (Nat.le_refl _) (by simp) ?_; (case hd | hg => rfl); (case hr => (go_simp; done)); (case hp => exact (Reps.none _ _)); intro v1107 w41 ho42 hb hg_ hnew_; clear hg_ hnew_; (rw [← Ny1106.out] at ho42); have HO1108 := Aside0.mk (Kd.R_lower ho42 (below_size (Z.bs HB.out GE1105.out))); replace BK1105 := Z.bb BK1105 hb; replace HB := Z.st (Z.bs HB.out GE1105.out) hb; clear hb ho42; have hcz43 := Z.c3 BK1105.out) | ((with_reducible refine gate_callee (f := 61) rfl ?_); refine goesL_ (some 13) rfl rfl Try.func61 (by kernel_rfl) rfl #[.agg #[.int .i64 a0_0, .slice A0_1 l0_1.length c0_1, .slice A0_2 l0_2.length c0_2], .slice A1 l1.length c1] rfl Z.ar ?_; (with_reducible refine (spec_StateOk.calls k a0_0 _ _ l0_1 _ _ l0_2 _ _ l1 false _ ?q1 ?q2 ?q3 ?q4 ?q5 ?q6 A3.out).mono ?_); (case q1 => exact Z.cc HR0_1 HB); (case q2 => exact HC0_1.out); (case q3 => exact Z.cc HR0_2 HB); (case q4 => exact HC0_2.out); (case q5 => exact Z.cc HR1 HB); (case q6 => exact HC1.out); rintro e w44 ⟨rfl, hb⟩; refine ⟨_, rfl, ?_⟩; replace HO1108 := Aside0.mk (Kd.R_below (by (with_reducible skip); exact HO1108.out) hb); replace BK1105 := Z.bb BK1105 hb; replace HB := Z.st (Z.bs HB.out GE1105.out) hb; (try clear hb)))
  go_ret
  exact ⟨_, by rfl, by (with_reducible skip); exact HO1108.out, Z.bs HB.out GE1105.out⟩

end Go.Proofs.Ytcafckapdgaogaa.PAll

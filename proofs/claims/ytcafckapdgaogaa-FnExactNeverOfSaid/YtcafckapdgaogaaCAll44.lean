/- Walks of functions that All reaches, in the form of the print. -/
-- PRINTED
import Derived.Test.YtcafckapdgaogaaCAll32
namespace Go.Proofs.Ytcafckapdgaogaa.PAll
open Go.RowKit Go.Proofs.YtcafckapdgaogaaW.PrintWords Go.Proofs.YtcafckapdgaogaaW.PrintLast Go.Proofs.YtcafckapdgaogaaW.PrintMore
attribute [local go_sem] max2_int min2_int max_two min_two max_three min_three max_four min_four
set_option linter.unusedVariables false
set_option linter.unusedSimpArgs false

/-! ### spec_NeverOf: function 51 -/
def spec_NeverOf.l0 : Nat → List Int → List Int → Int → Int → List Int → List (List (S86)) → Option (List Int)
 | 0, _, _, _, _, _, _ => none
 | k + 1, x5, x6, x7, x1221000, x1221001, x1221002 => if x7 < (x6.length : Int) then (if 0 ≤ x7 then (if (rd x6 x7) < 0 then ((spec_l8State.f k x1221000 x1221001 x1221002 x7).bind fun t1230 => ((spec_StateOk.f k x1221000 x1221001 x1221002 t1230).bind fun t1233 => (if t1233 = true then ((spec_l8State.f k x1221000 x1221001 x1221002 x7).bind fun t1234 => ((spec_l8Code.f k t1234).bind fun t1237 => (if t1237 = x7 then (if x5.length < 17592186044416 then (spec_NeverOf.l0 k (x5 ++ [x7]) x6 (wrap64 (x7 + 1)) x1221000 x1221001 x1221002) else (none)) else (spec_NeverOf.l0 k x5 x6 (wrap64 (x7 + 1)) x1221000 x1221001 x1221002)))) else (spec_NeverOf.l0 k x5 x6 (wrap64 (x7 + 1)) x1221000 x1221001 x1221002)))) else (spec_NeverOf.l0 k x5 x6 (wrap64 (x7 + 1)) x1221000 x1221001 x1221002)) else (none)) else (some x5)
def spec_NeverOf.f (k : Nat) (a0_0 : Int) (l0_1 : List Int) (l0_2 : List (List (S86))) (l1 : List Int) : Option (List Int) := (some (([] : List Int) : List Int)).bind fun y1221 => ((spec_StateOk.f k a0_0 l0_1 l0_2 l1).bind fun t1224 => (if t1224 = true then ((spec_l8Code.f k l1).bind fun t1225 => (if 0 ≤ a0_0 then ((spec_l8Reach.f k a0_0 l0_1 l0_2 t1225 (wrap64 ((shl .i64 1 a0_0) - 1))).bind fun t1226 => (spec_NeverOf.l0 k y1221 t1226 0 a0_0 l0_1 l0_2)) else (none))) else (some y1221)))
def spec_NeverOf.T4 : Bool × List (List Nat × List Nat) := (true, [([], []), ([], []), ([1], [1]), ([], []), ([3], [3]), ([4], [4]), ([5], [5]), ([6], [6]), ([0, 2, 7, 2], [0, 2, 7]), ([8, 8, 0, 1, 2, 3, 4, 5, 6, 7, 8], [8])])
def spec_NeverOf.B4 : List Nat := [0, 0, 2, 0, 8, 24, 56, 120, 255, 511]
theorem spec_NeverOf.tab4 : rtab .any (opsOf Try.f51 4) = spec_NeverOf.T4 := by kernel_rfl
theorem spec_NeverOf.bits4 : waitsOk spec_NeverOf.T4.2 spec_NeverOf.B4 = true := by kernel_rfl
def spec_NeverOf.T8 : Bool × List (List Nat × List Nat) := (true, [([], []), ([], []), ([0, 1], [0, 1]), ([2], [2]), ([3], [3]), ([4], [4]), ([5], [5]), ([5], [5]), ([5], [5]), ([7, 8, 5, 5], [5, 7, 8]), ([6, 9, 9, 5], [5, 6, 9]), ([5, 10], [5, 10]), ([11, 10], [11]), ([12], [12]), ([12], [12]), ([13, 14, 12, 12], [12, 13, 14]), ([15, 15, 12], [12, 15]), ([12], [12]), ([16, 17, 12], [12, 16, 17]), ([12, 18], [12, 18])])
def spec_NeverOf.B8 : List Nat := [0, 0, 3, 7, 15, 31, 63, 63, 63, 447, 1023, 2047, 4095, 8191, 8191, 32767, 65535, 8191, 262143, 524287]
theorem spec_NeverOf.tab8 : rtab .any (opsOf Try.f51 8) = spec_NeverOf.T8 := by kernel_rfl
theorem spec_NeverOf.bits8 : waitsOk spec_NeverOf.T8.2 spec_NeverOf.B8 = true := by kernel_rfl
set_option maxHeartbeats 8000000 in
set_option maxRecDepth 100000 in
theorem spec_NeverOf.calls (k : Nat) (a0_0 : Int) (A0_1 : Option Addr) (c0_1 : Nat) (l0_1 : List Int) (A0_2 : Option Addr) (c0_2 : Nat) (l0_2 : List (List (S86))) (A1 : Option Addr) (c1 : Nat) (l1 : List Int) (r : List Int) (w : World) (hr0_1 : Kd.C (Kd.int .i64) w A0_1 l0_1.length l0_1) (hc0_1 : l0_1.length ≤ c0_1) (hr0_2 : Kd.C (Kd.slice 86 k86) w A0_2 l0_2.length l0_2) (hc0_2 : l0_2.length ≤ c0_2) (hr1 : Kd.C (Kd.int .i64) w A1 l1.length l1) (hc1 : l1.length ≤ c1) (h : spec_NeverOf.f k a0_0 l0_1 l0_2 l1 = some r) :
  Calls Try.prog 51 #[.agg #[.int .i64 a0_0, .slice A0_1 l0_1.length c0_1, .slice A0_2 l0_2.length c0_2], .slice A1 l1.length c1] w fun e w' => ∃ v0_ : Value, e = .returned (v0_) ∧ Kd.R (Kd.int .i64) 3 w' w.heap.size (fun _ => True) v0_ r ∧ Below w.heap.size w w' := by
 have hu35 := Try.underlying35
 have HR0_1 := Aside0.mk hr0_1
 have HC0_1 := Aside0.mk hc0_1
 clear hr0_1 hc0_1
 have HR0_2 := Aside0.mk hr0_2
 have HC0_2 := Aside0.mk hc0_2
 clear hr0_2 hc0_2
 have HR1 := Aside0.mk hr1
 have HC1 := Aside0.mk hc1
 clear hr1 hc1
 have HB := Aside0.mk (Below.refl w.heap.size w)
 have H := h
 clear h
 unfold spec_NeverOf.f at H
 obtain ⟨y1221, hy1221⟩ : ∃ y_ : List Int, y_ = (([] : List Int)) := ⟨_, rfl⟩
 replace H : ((spec_StateOk.f k a0_0 l0_1 l0_2 l1).bind fun t1224 => (if t1224 = true then ((spec_l8Code.f k l1).bind fun t1225 => (if 0 ≤ a0_0 then ((spec_l8Reach.f k a0_0 l0_1 l0_2 t1225 (wrap64 ((shl .i64 1 a0_0) - 1))).bind fun t1226 => (spec_NeverOf.l0 k y1221 t1226 0 a0_0 l0_1 l0_2)) else (none))) else (some y1221))) = some r := by (have H2_ := (Option.bind_some _ _).symm.trans H; rw [hy1221]; with_reducible exact H2_)
 have Ny1221 := Aside0.mk hy1221
 clear hy1221
 replace H := Option.bind_eq_some_iff.mp H
 obtain ⟨t1224, A30, H⟩ := H
 have A3 := Aside0.mk A30
 clear A30
 by_cases c4 : t1224 = true
 ·subst c4
  rw [if_pos rfl] at H
  replace H := Option.bind_eq_some_iff.mp H
  obtain ⟨t1225, A50, H⟩ := H
  have A5 := Aside0.mk A50
  clear A50
  obtain ⟨c6, H⟩ := Z.ifp H
  have c6b0 := eq_true c6
  have c6b1 : decide (0 ≤ a0_0) = true := decide_eq_true c6
  clear c6
  obtain ⟨ji7, hji7⟩ : ∃ j_ : Int, (shl .i64 1 a0_0) = j_ := ⟨_, rfl⟩
  replace H : ((spec_l8Reach.f k a0_0 l0_1 l0_2 t1225 (wrap64 ((ji7) - 1))).bind fun t1226 => (spec_NeverOf.l0 k y1221 t1226 0 a0_0 l0_1 l0_2)) = some r := by (rw [hji7] at H; exact H)
  have hji7_ : (IntKind.i64.wrap (1 * 2 ^ min a0_0.toNat 64)) = ji7 := hji7
  have hji7z : a0_0 ≤ 64 → (IntKind.i64.wrap (1 * 2 ^ a0_0.toNat)) = ji7 := shl_small hji7
  have hji7u : (IntKind.i64.wrap (2 ^ min a0_0.toNat 64)) = ji7 := by have h_ := hji7_; rw [Int.one_mul] at h_; exact h_
  have hji7v : a0_0 ≤ 64 → (IntKind.i64.wrap (2 ^ a0_0.toNat)) = ji7 := fun hle_ => by have h_ := hji7z hle_; rw [Int.one_mul] at h_; exact h_
  have hji7y : (wrap64 (1 * 2 ^ min a0_0.toNat 64)) = ji7 := (i64_w _).symm.trans hji7_
  have hji7x : a0_0 ≤ 64 → (wrap64 (1 * 2 ^ a0_0.toNat)) = ji7 := fun h_ => (i64_w _).symm.trans (hji7z h_)
  replace H := Option.bind_eq_some_iff.mp H
  obtain ⟨t1226, A80, H⟩ := H
  have A8 := Aside0.mk A80
  clear A80
  have H' := Aside0.mk H
  clear H
  go_enter Try.func51, Try.ntmps51
  try go_wp2_with (first | ((with_reducible refine gate_dst (N := 2) rfl ?_); refine Z.bx #[.int .i64 a0_0, .slice A0_1 l0_1.length c0_1, .slice A0_2 l0_2.length c0_2] 35 HB ?_; clear HB; intro gb1220 w9 BK1220 GE1220 HB hg hb; have GW1220 := GE1220; clear hb hg) | ((with_reducible refine gate_dst (N := 8) rfl ?_); refine Kd.R_lit (Kd.int .i64) _ 3 ?hg (N := 8) ?hd (xs := ([] : List Int)) (inner := []) (ok := fun _ => True) (okp := fun _ => True) ?hr ?hp (fun _ hk => hk) trivial (Below.refl _ _) (Nat.le_refl _) (by simp) ?_; (case hd | hg => rfl); (case hr => (go_simp; done)); (case hp => exact (Reps.none _ _)); intro v1222 w10 ho11 hb hg_ hnew_; clear hg_ hnew_; (rw [← Ny1221.out] at ho11); have HO1223 := Aside0.mk (Kd.R_lower ho11 (below_size (Z.bs HB.out GE1220.out))); replace BK1220 := Z.bb BK1220 hb; replace HB := Z.st (Z.bs HB.out GE1220.out) hb; clear hb ho11; have hcz12 := Z.c3 BK1220.out) | ((with_reducible refine gate_callee (f := 61) rfl ?_); refine goesL_ (some 11) rfl rfl Try.func61 (by kernel_rfl) rfl #[.agg #[.int .i64 a0_0, .slice A0_1 l0_1.length c0_1, .slice A0_2 l0_2.length c0_2], .slice A1 l1.length c1] rfl Z.ar ?_; (with_reducible refine (spec_StateOk.calls k a0_0 _ _ l0_1 _ _ l0_2 _ _ l1 true _ ?q1 ?q2 ?q3 ?q4 ?q5 ?q6 A3.out).mono ?_); (case q1 => exact Z.cc HR0_1 HB); (case q2 => exact HC0_1.out); (case q3 => exact Z.cc HR0_2 HB); (case q4 => exact HC0_2.out); (case q5 => exact Z.cc HR1 HB); (case q6 => exact HC1.out); rintro e w13 ⟨rfl, hb⟩; refine ⟨_, rfl, ?_⟩; replace HO1223 := Aside0.mk (Kd.R_below (by (with_reducible skip); exact HO1223.out) hb); replace BK1220 := Z.bb BK1220 hb; replace HB := Z.st (Z.bs HB.out GE1220.out) hb; (try clear hb)))
  replace HO1223 := Aside0.mk (Kd.R_drew HO1223.out)
  replace BK1220 := Aside0.mk (blk_drew BK1220.out)
  replace HB := Aside0.mk (below_drew1 HB.out)
  refine start_ (n := 10) (S := fun w' => w'.cell? ⟨gb1220, 0, none⟩ = some (.int .i64 a0_0) ∧ w'.cell? ⟨gb1220, 1, none⟩ = some (.slice A0_1 l0_1.length c0_1) ∧ w'.cell? ⟨gb1220, 2, none⟩ = some (.slice A0_2 l0_2.length c0_2)) (ds := []) #[false, false, false, false, false, false, false, false, false, false] (by kernel_rfl) rfl rfl ⟨(blk_cell BK1220.out 0).trans rfl, (blk_cell BK1220.out 1).trans rfl, (blk_cell BK1220.out 2).trans rfl⟩ (fun hHeld => ?_); refine with_tabW spec_NeverOf.tab4 spec_NeverOf.bits4 (fun HT_ HW_ => ?_)
  generalize w13.drew = w14 at HO1223 BK1220 HB hHeld ⊢
  refine Z.pv 1 15 10 2 HT_.out ?_
  refine Z.pv 3 17 10 10 HT_.out ?_
  refine Z.pv 4 18 10 26 HT_.out ?_
  refine Z.t3 0 14 10 27 HT_.out HW_.out hHeld ?_
  refine Z.t3 5 19 10 59 HT_.out HW_.out hHeld ?_
  refine Z.pv 6 20 10 123 HT_.out ?_
  refine Z.pv 7 21 10 251 HT_.out ?_
  refine one_ (i := 2) (N := some 16) (Z.mb 10 255) rfl rfl (one_of HT_.out (by kernel_rfl)) (by decide) (fun K hK => ?_)
  refine goes_ Try.func77 (by kernel_rfl) rfl #[.slice A1 l1.length c1] (by rfl) rfl rfl Z.ar ?_
  with_reducible refine (spec_l8Code.calls k _ _ l1 t1225 _ ?q1 ?q2 A5.out).mono ?_
  (case q1 => exact Z.cc HR1 HB)
  (case q2 => exact HC1.out)
  rintro e w' ⟨rfl, ⟨nd, rfl⟩⟩
  refine ⟨_, rfl, ?_⟩
  refine hK.out _ _ ⟨(blk_cell BK1220.out 0).trans rfl, (blk_cell BK1220.out 1).trans rfl, (blk_cell BK1220.out 2).trans rfl⟩ (fun hHeld => ?_)
  clear hK K
  refine Z.nm ?_
  refine one_ (i := 8) (N := some 22) (Z.mb 10 511) rfl rfl (one_of HT_.out (by kernel_rfl)) (by decide) (fun K hK => ?_)
  refine goes_ Try.func86 (by kernel_rfl) rfl #[.agg #[.int .i64 a0_0, .slice A0_1 l0_1.length c0_1, .slice A0_2 l0_2.length c0_2], .int .i64 t1225, .int .i64 (wrap64 ((ji7) - 1))] (by rfl) rfl rfl (by (try simp only [List.map_toArray, List.map_cons, List.map_nil]); rfl) ?_
  with_reducible refine (spec_l8Reach.calls k a0_0 _ _ l0_1 _ _ l0_2 t1225 (wrap64 ((ji7) - 1)) t1226 _ ?q1 ?q2 ?q3 ?q4 A8.out).mono ?_
  (case q1 => repeat (exact (Kd.C_below HR0_1.out (Z.bs HB.out GE1220.out))))
  (case q2 => exact HC0_1.out)
  (case q3 => repeat (exact (Kd.C_below HR0_2.out (Z.bs HB.out GE1220.out))))
  (case q4 => exact HC0_2.out)
  rintro e w15 ⟨v1227, rfl, ho0, hb⟩
  refine ⟨_, rfl, ?_⟩
  have HO1228 := Aside0.mk (Kd.R_lower (Kd.R_new' ho0 (Kd.R_lt (by (with_reducible repeat (apply Kd.R_drewN)); exact HO1223.out))) (below_size (Z.bs HB.out GE1220.out)))
  replace HO1223 := Aside0.mk (Kd.R_elder' (by (with_reducible repeat (apply Kd.R_drewN)); exact HO1223.out) (Kd.R_base ho0) hb)
  replace BK1220 := Z.bb BK1220 hb
  replace HB := Z.st (Z.bs HB.out GE1220.out) hb
  (try clear hb)
  (try clear ho0)
  refine hK.out _ _ ⟨(blk_cell BK1220.out 0).trans rfl, (blk_cell BK1220.out 1).trans rfl, (blk_cell BK1220.out 2).trans rfl⟩ (fun hHeld => ?_)
  clear hK K
  refine Z.nm ?_
  refine Z.pv 9 6 10 1023 HT_.out ?_
  refine done_ (done_of HT_.out (by kernel_rfl)) ?_
  try go_wp2
  go_loopg [5, 7] k (fun kq v5 v7 w' => ∃ (x5_1 : List Int) (x7_1 : Int), v7 = .int .i64 x7_1 ∧ Aside0 (spec_NeverOf.l0 kq x5_1 t1226 x7_1 a0_0 l0_1 l0_2 = some r) ∧ Aside0 (kq ≤ k) ∧ Aside0 (Kd.R (Kd.int .i64) 3 w' w.heap.size (fun k_ => some k_ ≠ (v1227 : Value).ownBlock) v5 x5_1) ∧ Aside0 (Kd.R (Kd.int .i64) 3 w' w.heap.size (fun k_ => some k_ ≠ (v5 : Value).ownBlock) v1227 t1226) ∧ Aside0 (w'.heap[gb1220]? = some (.cells #[.int .i64 a0_0, (.slice A0_1 l0_1.length c0_1), (.slice A0_2 l0_2.length c0_2)] 35 (0, 0))) ∧ Aside0 (Below w.heap.size w w'))
  case atStart => exact ⟨(y1221), (0), (by rfl), H', ⟨Nat.le_refl _⟩, ⟨by (with_reducible skip); exact Kd.R_mono HO1223.out (fun _ hk => hk.2)⟩, ⟨by (with_reducible skip); exact Kd.R_mono HO1228.out (fun _ hk => hk.2)⟩, ⟨by (with_reducible skip); exact BK1220.out⟩, ⟨Z.bs HB.out GE1220.out⟩⟩
  case round =>
   clear H'
   try clear c6b0
   try clear c6b1
   obtain ⟨x5_1, x7_1, rfl, HA, HK1, HO_5, HO_6, BK1220, HB⟩ := hrel
   cases gk with
   | zero => exact absurd HA.out (by simp [spec_NeverOf.l0])
   | succ k1 =>
    have H := HA.out
    clear HA
    simp only [spec_NeverOf.l0] at H
    by_cases c16 : x7_1 < (t1226.length : Int)
    ·rw [if_pos c16] at H
     have c16b0 := decide_eq_true c16
     clear c16
     obtain ⟨c17, H⟩ := Z.ifp H
     have c17b0 : decide (0 ≤ x7_1) = true := decide_eq_true c17
     clear c17
     by_cases c18 : (rd t1226 x7_1) < 0
     ·rw [if_pos c18] at H
      have c18b0 := decide_eq_true c18
      clear c18
      replace H := Option.bind_eq_some_iff.mp H
      obtain ⟨t1230, A190, H⟩ := H
      have A19 := Aside0.mk A190
      clear A190
      replace H := Option.bind_eq_some_iff.mp H
      obtain ⟨t1233, A200, H⟩ := H
      have A20 := Aside0.mk A200
      clear A200
      by_cases c21 : t1233 = true
      ·subst c21
       rw [if_pos rfl] at H
       replace H := Option.bind_eq_some_iff.mp H
       obtain ⟨t1234, A220, H⟩ := H
       have A22 := Aside0.mk A220
       clear A220
       replace H := Option.bind_eq_some_iff.mp H
       obtain ⟨t1237, A230, H⟩ := H
       have A23 := Aside0.mk A230
       clear A230
       by_cases c24 : t1237 = x7_1
       ·rw [if_pos c24] at H
        have c24b0 : (t1237 == x7_1) = true := beq_iff_eq.mpr c24
        have c24b1 : (t1237 != x7_1) = false := bne_eq_false_iff_eq.mpr c24
        clear c24
        obtain ⟨c25, H⟩ := Z.ifp H
        have LMc25 := Aside0.mk c25
        clear c25
        obtain ⟨y1238, hy1238⟩ : ∃ y_ : List Int, y_ = (x5_1 ++ [x7_1]) := ⟨_, rfl⟩
        replace H : (spec_NeverOf.l0 k1 y1238 t1226 (wrap64 (x7_1 + 1)) a0_0 l0_1 l0_2) = some r := by (rw [hy1238]; with_reducible exact H)
        have Ny1238 := Aside0.mk hy1238
        clear hy1238
        have H' := Aside0.mk H
        clear H
        obtain ⟨Ao26, co26, eo26⟩ := Kd.R_slice HO_6.out
        subst eo26
        try go_wp2
        replace HO_5 := Aside0.mk (Kd.R_drew HO_5.out)
        replace HO_6 := Aside0.mk (Kd.R_drew HO_6.out)
        replace BK1220 := Aside0.mk (blk_drew BK1220.out)
        replace HB := Aside0.mk (below_drew1 HB.out)
        have p1229 : 0 ≤ (x7_1 : Int) := Z.od
        have q1229 : x7_1 < (t1226.length : Int) := Z.od
        obtain ⟨ad1229, e1229, hx1229_0⟩ := Kd.at_int (Kd.R_reads' HO_6.out).2.2 x7_1 p1229 q1229
        cases e1229
        replace p1229 := eq_true p1229
        replace q1229 := eq_true q1229
        refine start_ (n := 20) (S := fun w' => w'.cell? ⟨gb1220, 0, none⟩ = some (.int .i64 a0_0) ∧ w'.cell? ⟨gb1220, 1, none⟩ = some (.slice A0_1 l0_1.length c0_1) ∧ w'.cell? ⟨gb1220, 2, none⟩ = some (.slice A0_2 l0_2.length c0_2) ∧ w'.cell? (ad1229.add (x7_1).toNat) = some (.int .i64 (rd t1226 x7_1))) (ds := []) #[false, false, false, false, false, false, false, false, false, false, false, false, false, false, false, false, false, false, false, false] (by kernel_rfl) rfl rfl ⟨(blk_cell BK1220.out 0).trans rfl, (blk_cell BK1220.out 1).trans rfl, (blk_cell BK1220.out 2).trans rfl, hx1229_0⟩ (fun hHeld => ?_); refine with_tabW spec_NeverOf.tab8 spec_NeverOf.bits8 (fun HT_ HW_ => ?_)
        generalize wr.drew = w27 at HO_5 HO_6 BK1220 HB hx1229_0 hHeld ⊢
        refine Z.pv 0 29 20 1 HT_.out ?_
        refine Z.pv 1 30 20 3 HT_.out ?_
        refine Z.pv 2 31 20 7 HT_.out ?_
        refine Z.t4 3 32 20 15 HT_.out HW_.out hHeld ?_
        refine Z.pv 4 33 20 31 HT_.out ?_
        refine Z.pv 5 34 20 63 HT_.out ?_
        refine Z.pv 8 37 20 319 HT_.out ?_
        refine Z.t4 6 35 20 383 HT_.out HW_.out hHeld ?_
        refine Z.t4 7 36 20 511 HT_.out HW_.out hHeld ?_
        refine one_ (i := 9) (N := some 38) (Z.mb 20 1023) rfl rfl (one_of HT_.out (by kernel_rfl)) (by decide) (fun K hK => ?_)
        refine goes_ Try.func90 (by kernel_rfl) rfl #[.agg #[.int .i64 a0_0, .slice A0_1 l0_1.length c0_1, .slice A0_2 l0_2.length c0_2], .int .i64 x7_1] (by rfl) rfl rfl Z.ar ?_
        with_reducible refine (spec_l8State.calls k1 a0_0 _ _ l0_1 _ _ l0_2 x7_1 t1230 _ ?q1 ?q2 ?q3 ?q4 A19.out).mono ?_
        (case q1 => exact Z.cc HR0_1 HB)
        (case q2 => exact HC0_1.out)
        (case q3 => exact Z.cc HR0_2 HB)
        (case q4 => exact HC0_2.out)
        rintro e w28 ⟨v1231, rfl, ho0, hb⟩
        have HS3_ := (hb.cell (World.block_lt_of_cell? _ _ (hHeld.2.2.2))).trans (hHeld.2.2.2)
        refine ⟨_, rfl, ?_⟩
        have HO1232 := Aside0.mk (Kd.R_lower (Kd.R_new' (Kd.R_new' ho0 (Kd.R_lt (by (with_reducible skip); exact HO_5.out))) (Kd.R_lt (by (with_reducible skip); exact HO_6.out))) (below_size (Z.bs HB.out GE1220.out)))
        replace HO_5 := Aside0.mk (Kd.R_elder' (by (with_reducible skip); exact HO_5.out) (Kd.R_base ho0) hb)
        replace HO_6 := Aside0.mk (Kd.R_elder' (by (with_reducible skip); exact HO_6.out) (Kd.R_base ho0) hb)
        replace BK1220 := Z.bb BK1220 hb
        replace HB := Z.st (Z.bs HB.out GE1220.out) hb
        (try clear hb)
        (try clear ho0)
        obtain ⟨Ao29, co29, eo29⟩ := Kd.R_slice HO1232.out
        (subst eo29)
        refine hK.out _ _ ⟨(blk_cell BK1220.out 0).trans rfl, (blk_cell BK1220.out 1).trans rfl, (blk_cell BK1220.out 2).trans rfl, HS3_⟩ (fun hHeld => ?_)
        clear hK K
        refine Z.nm ?_
        refine one_ (i := 10) (N := some 39) (Z.mb 20 2047) rfl rfl (one_of HT_.out (by kernel_rfl)) (by decide) (fun K hK => ?_)
        refine goes_ Try.func61 (by kernel_rfl) rfl #[.agg #[.int .i64 a0_0, .slice A0_1 l0_1.length c0_1, .slice A0_2 l0_2.length c0_2], .slice Ao29 t1230.length co29] (by rfl) rfl rfl Z.ar ?_
        with_reducible refine (spec_StateOk.calls k1 a0_0 _ _ l0_1 _ _ l0_2 _ _ t1230 true _ ?q1 ?q2 ?q3 ?q4 ?q5 ?q6 A20.out).mono ?_
        (case q1 => exact Z.cc HR0_1 HB)
        (case q2 => exact HC0_1.out)
        (case q3 => exact Z.cc HR0_2 HB)
        (case q4 => exact HC0_2.out)
        (case q5 => repeat (exact (Kd.R_reads' HO1232.out).2.2))
        (case q6 => exact (Kd.R_reads' HO1232.out).2.1)
        rintro e w30 ⟨rfl, hb⟩
        have HS3_ := (hb.cell (World.block_lt_of_cell? _ _ (hHeld.2.2.2))).trans (hHeld.2.2.2)
        refine ⟨_, rfl, ?_⟩
        replace HO_5 := Aside0.mk (Kd.R_below (by (with_reducible skip); exact HO_5.out) hb)
        replace HO_6 := Aside0.mk (Kd.R_below (by (with_reducible skip); exact HO_6.out) hb)
        replace HO1232 := Aside0.mk (Kd.R_below (by (with_reducible skip); exact HO1232.out) hb)
        replace BK1220 := Z.bb BK1220 hb
        replace HB := Z.st (Z.bs HB.out GE1220.out) hb
        (try clear hb)
        refine hK.out _ _ ⟨(blk_cell BK1220.out 0).trans rfl, (blk_cell BK1220.out 1).trans rfl, (blk_cell BK1220.out 2).trans rfl, HS3_⟩ (fun hHeld => ?_)
        clear hK K
        refine Z.nm ?_
        refine Z.pv 11 40 20 4095 HT_.out ?_
        refine Z.pv 12 41 20 8191 HT_.out ?_
        refine Z.pv 14 43 20 24575 HT_.out ?_
        refine Z.pv 17 46 20 155647 HT_.out ?_
        refine Z.t4 13 42 20 163839 HT_.out HW_.out hHeld ?_
        refine one_ (i := 15) (N := some 44) (Z.mb 20 196607) rfl rfl (one_of HT_.out (by kernel_rfl)) (by decide) (fun K hK => ?_)
        refine goes_ Try.func90 (by kernel_rfl) rfl #[.agg #[.int .i64 a0_0, .slice A0_1 l0_1.length c0_1, .slice A0_2 l0_2.length c0_2], .int .i64 x7_1] (by rfl) rfl rfl Z.ar ?_
        with_reducible refine (spec_l8State.calls k1 a0_0 _ _ l0_1 _ _ l0_2 x7_1 t1234 _ ?q1 ?q2 ?q3 ?q4 A22.out).mono ?_
        (case q1 => exact Z.cc HR0_1 HB)
        (case q2 => exact HC0_1.out)
        (case q3 => exact Z.cc HR0_2 HB)
        (case q4 => exact HC0_2.out)
        rintro e w31 ⟨v1235, rfl, ho0, hb⟩
        have HS3_ := (hb.cell (World.block_lt_of_cell? _ _ (hHeld.2.2.2))).trans (hHeld.2.2.2)
        refine ⟨_, rfl, ?_⟩
        have HO1236 := Aside0.mk (Kd.R_lower (Kd.R_new' (Kd.R_new' (Kd.R_new' ho0 (Kd.R_lt (by (with_reducible skip); exact HO_5.out))) (Kd.R_lt (by (with_reducible skip); exact HO_6.out))) (Kd.R_lt (by (with_reducible skip); exact HO1232.out))) (below_size (Z.bs HB.out GE1220.out)))
        replace HO_5 := Aside0.mk (Kd.R_elder' (by (with_reducible skip); exact HO_5.out) (Kd.R_base ho0) hb)
        replace HO_6 := Aside0.mk (Kd.R_elder' (by (with_reducible skip); exact HO_6.out) (Kd.R_base ho0) hb)
        replace HO1232 := Aside0.mk (Kd.R_elder' (by (with_reducible skip); exact HO1232.out) (Kd.R_base ho0) hb)
        replace BK1220 := Z.bb BK1220 hb
        replace HB := Z.st (Z.bs HB.out GE1220.out) hb
        (try clear hb)
        (try clear ho0)
        obtain ⟨Ao32, co32, eo32⟩ := Kd.R_slice HO1236.out
        (subst eo32)
        refine hK.out _ _ ⟨(blk_cell BK1220.out 0).trans rfl, (blk_cell BK1220.out 1).trans rfl, (blk_cell BK1220.out 2).trans rfl, HS3_⟩ (fun hHeld => ?_)
        clear hK K
        refine Z.nm ?_
        refine one_ (i := 16) (N := some 45) (Z.mb 20 262143) rfl rfl (one_of HT_.out (by kernel_rfl)) (by decide) (fun K hK => ?_)
        refine goes_ Try.func77 (by kernel_rfl) rfl #[.slice Ao32 t1234.length co32] (by rfl) rfl rfl Z.ar ?_
        with_reducible refine (spec_l8Code.calls k1 _ _ t1234 t1237 _ ?q1 ?q2 A23.out).mono ?_
        (case q1 => repeat (exact (Kd.R_reads' HO1236.out).2.2))
        (case q2 => exact (Kd.R_reads' HO1236.out).2.1)
        rintro e w' ⟨rfl, ⟨nd, rfl⟩⟩
        refine ⟨_, rfl, ?_⟩
        refine hK.out _ _ ⟨(blk_cell BK1220.out 0).trans rfl, (blk_cell BK1220.out 1).trans rfl, (blk_cell BK1220.out 2).trans rfl, hHeld.2.2.2⟩ (fun hHeld => ?_)
        clear hK K
        refine Z.nm ?_
        refine Z.pv 18 47 20 524287 HT_.out ?_
        refine Z.pv 19 48 20 1048575 HT_.out ?_
        refine done_ (done_of HT_.out (by kernel_rfl)) ?_
        try go_wp2_with (((with_reducible refine gate_builtin (b := .append) (xs := #[.tmp 49, .tmp 51]) rfl ?_); at_builtin; refine Kd.R_append (Kd.int .i64) (w0 := w) w.heap.size rfl (.tmp 49) (.tmp 51) 22 3 (.int .i64 0) 8 rfl Try.underlying22 info3 rfl (by decide) (by omega) u5 x5_1 x7_1 [.int .i64 x7_1] (fun k_ => some k_ ≠ (.slice (some ad1229) t1226.length co26 : Value).ownBlock ∧ some k_ ≠ (.slice Ao29 t1230.length co29 : Value).ownBlock ∧ some k_ ≠ (.slice Ao32 t1234.length co32 : Value).ownBlock) (fun _ => False) rfl rfl ?aP (fun _ hk => hk.elim) ?aF ?aO ?aB ?aS ?aL ?_; (case aP => exact rfl); (case aB => exact (Z.bs HB.out GE1220.out)); (case aF => exact (fun k_ hk => ⟨Kd.fresh' (Kd.R_lt (by (with_reducible repeat (apply Kd.R_drewN)); exact HO_6.out)) k_ hk, Kd.fresh' (Kd.R_lt (by (with_reducible repeat (apply Kd.R_drewN)); exact HO1232.out)) k_ hk, Kd.fresh' (Kd.R_lt (by (with_reducible repeat (apply Kd.R_drewN)); exact HO1236.out)) k_ hk⟩)); (case aO => exact (by (with_reducible repeat (apply Kd.R_drewN)); exact Kd.R_mono HO_5.out (fun _ hk => ⟨hk.1.1, ⟨hk.1.2, hk.2⟩⟩))); (case aS => exact (below_size (Z.bs HB.out GE1220.out))); (case aL => have := LMc25.out; omega); intro v1239 w33 ho hb hg hat; rw [← Ny1238.out] at ho; replace HO_6 := Aside0.mk (Kd.R_after (ok := (fun k_ => some k_ ≠ (.slice Ao29 t1230.length co29 : Value).ownBlock ∧ some k_ ≠ (.slice Ao32 t1234.length co32 : Value).ownBlock)) (by (with_reducible repeat (apply Kd.R_drewN)); exact Kd.R_mono HO_6.out (fun _ hk => ⟨⟨hk.1.2, hk.2⟩, hk.1.1⟩)) hg hat); replace BK1220 := Aside0.mk (blk_grown (g := gb1220) (o := .cells #[.int .i64 a0_0, .slice A0_1 l0_1.length c0_1, .slice A0_2 l0_2.length c0_2] 35 (0, 0)) (Z.bk BK1220.out) hg (Kd.R_ne HO_5.out BK1220.out (by decide))); replace HO1232 := Aside0.mk (Kd.R_after (ok := (fun k_ => some k_ ≠ (.slice (some ad1229) t1226.length co26 : Value).ownBlock ∧ some k_ ≠ (.slice Ao32 t1234.length co32 : Value).ownBlock)) (by (with_reducible repeat (apply Kd.R_drewN)); exact Kd.R_mono HO1232.out (fun _ hk => ⟨⟨hk.1.2, hk.2⟩, hk.1.1.2⟩)) hg hat); replace HO1236 := Aside0.mk (Kd.R_after (ok := (fun k_ => some k_ ≠ (.slice (some ad1229) t1226.length co26 : Value).ownBlock ∧ some k_ ≠ (.slice Ao29 t1230.length co29 : Value).ownBlock)) (by (with_reducible repeat (apply Kd.R_drewN)); exact Kd.R_mono HO1236.out (fun _ hk => ⟨⟨hk.1.2, hk.2⟩, hk.1.1.2⟩)) hg hat); replace HB := Aside0.mk (hb); have HO1240 := Aside0.mk (ho); clear HO_5; clear ho hb hg hat))
        go_roundg k1
        case measure => have := HK1.out; omega
        case rel => exact ⟨(y1238), (wrap64 (x7_1 + 1)), (by rfl), H', ⟨by have := HK1.out; omega⟩, ⟨by (with_reducible skip); exact Kd.R_mono HO1240.out (fun _ hk => hk.1)⟩, ⟨by (with_reducible skip); exact Kd.R_mono HO_6.out (fun _ hk => hk.2)⟩, ⟨by (with_reducible skip); exact BK1220.out⟩, ⟨Z.bs HB.out GE1220.out⟩⟩
       ·rw [if_neg c24] at H
        have c24b0 : (t1237 == x7_1) = false := beq_eq_false_iff_ne.mpr c24
        have c24b1 : (t1237 != x7_1) = true := bne_iff_ne.mpr c24
        have H' := Aside0.mk H
        clear H
        obtain ⟨Ao34, co34, eo34⟩ := Kd.R_slice HO_6.out
        subst eo34
        try go_wp2
        replace HO_5 := Aside0.mk (Kd.R_drew HO_5.out)
        replace HO_6 := Aside0.mk (Kd.R_drew HO_6.out)
        replace BK1220 := Aside0.mk (blk_drew BK1220.out)
        replace HB := Aside0.mk (below_drew1 HB.out)
        have p1229 : 0 ≤ (x7_1 : Int) := Z.od
        have q1229 : x7_1 < (t1226.length : Int) := Z.od
        obtain ⟨ad1229, e1229, hx1229_0⟩ := Kd.at_int (Kd.R_reads' HO_6.out).2.2 x7_1 p1229 q1229
        cases e1229
        replace p1229 := eq_true p1229
        replace q1229 := eq_true q1229
        refine start_ (n := 20) (S := fun w' => w'.cell? ⟨gb1220, 0, none⟩ = some (.int .i64 a0_0) ∧ w'.cell? ⟨gb1220, 1, none⟩ = some (.slice A0_1 l0_1.length c0_1) ∧ w'.cell? ⟨gb1220, 2, none⟩ = some (.slice A0_2 l0_2.length c0_2) ∧ w'.cell? (ad1229.add (x7_1).toNat) = some (.int .i64 (rd t1226 x7_1))) (ds := []) #[false, false, false, false, false, false, false, false, false, false, false, false, false, false, false, false, false, false, false, false] (by kernel_rfl) rfl rfl ⟨(blk_cell BK1220.out 0).trans rfl, (blk_cell BK1220.out 1).trans rfl, (blk_cell BK1220.out 2).trans rfl, hx1229_0⟩ (fun hHeld => ?_); refine with_tabW spec_NeverOf.tab8 spec_NeverOf.bits8 (fun HT_ HW_ => ?_)
        generalize wr.drew = w35 at HO_5 HO_6 BK1220 HB hx1229_0 hHeld ⊢
        refine Z.pv 0 29 20 1 HT_.out ?_
        refine Z.pv 1 30 20 3 HT_.out ?_
        refine Z.pv 2 31 20 7 HT_.out ?_
        refine Z.t4 3 32 20 15 HT_.out HW_.out hHeld ?_
        refine Z.pv 4 33 20 31 HT_.out ?_
        refine Z.pv 5 34 20 63 HT_.out ?_
        refine Z.pv 8 37 20 319 HT_.out ?_
        refine Z.t4 6 35 20 383 HT_.out HW_.out hHeld ?_
        refine Z.t4 7 36 20 511 HT_.out HW_.out hHeld ?_
        refine one_ (i := 9) (N := some 38) (Z.mb 20 1023) rfl rfl (one_of HT_.out (by kernel_rfl)) (by decide) (fun K hK => ?_)
        refine goes_ Try.func90 (by kernel_rfl) rfl #[.agg #[.int .i64 a0_0, .slice A0_1 l0_1.length c0_1, .slice A0_2 l0_2.length c0_2], .int .i64 x7_1] (by rfl) rfl rfl Z.ar ?_
        with_reducible refine (spec_l8State.calls k1 a0_0 _ _ l0_1 _ _ l0_2 x7_1 t1230 _ ?q1 ?q2 ?q3 ?q4 A19.out).mono ?_
        (case q1 => exact Z.cc HR0_1 HB)
        (case q2 => exact HC0_1.out)
        (case q3 => exact Z.cc HR0_2 HB)
        (case q4 => exact HC0_2.out)
        rintro e w36 ⟨v1231, rfl, ho0, hb⟩
        have HS3_ := (hb.cell (World.block_lt_of_cell? _ _ (hHeld.2.2.2))).trans (hHeld.2.2.2)
        refine ⟨_, rfl, ?_⟩
        have HO1232 := Aside0.mk (Kd.R_lower (Kd.R_new' (Kd.R_new' ho0 (Kd.R_lt (by (with_reducible skip); exact HO_5.out))) (Kd.R_lt (by (with_reducible skip); exact HO_6.out))) (below_size (Z.bs HB.out GE1220.out)))
        replace HO_5 := Aside0.mk (Kd.R_elder' (by (with_reducible skip); exact HO_5.out) (Kd.R_base ho0) hb)
        replace HO_6 := Aside0.mk (Kd.R_elder' (by (with_reducible skip); exact HO_6.out) (Kd.R_base ho0) hb)
        replace BK1220 := Z.bb BK1220 hb
        replace HB := Z.st (Z.bs HB.out GE1220.out) hb
        (try clear hb)
        (try clear ho0)
        obtain ⟨Ao37, co37, eo37⟩ := Kd.R_slice HO1232.out
        (subst eo37)
        refine hK.out _ _ ⟨(blk_cell BK1220.out 0).trans rfl, (blk_cell BK1220.out 1).trans rfl, (blk_cell BK1220.out 2).trans rfl, HS3_⟩ (fun hHeld => ?_)
        clear hK K
        refine Z.nm ?_
        refine one_ (i := 10) (N := some 39) (Z.mb 20 2047) rfl rfl (one_of HT_.out (by kernel_rfl)) (by decide) (fun K hK => ?_)
        refine goes_ Try.func61 (by kernel_rfl) rfl #[.agg #[.int .i64 a0_0, .slice A0_1 l0_1.length c0_1, .slice A0_2 l0_2.length c0_2], .slice Ao37 t1230.length co37] (by rfl) rfl rfl Z.ar ?_
        with_reducible refine (spec_StateOk.calls k1 a0_0 _ _ l0_1 _ _ l0_2 _ _ t1230 true _ ?q1 ?q2 ?q3 ?q4 ?q5 ?q6 A20.out).mono ?_
        (case q1 => exact Z.cc HR0_1 HB)
        (case q2 => exact HC0_1.out)
        (case q3 => exact Z.cc HR0_2 HB)
        (case q4 => exact HC0_2.out)
        (case q5 => repeat (exact (Kd.R_reads' HO1232.out).2.2))
        (case q6 => exact (Kd.R_reads' HO1232.out).2.1)
        rintro e w38 ⟨rfl, hb⟩
        have HS3_ := (hb.cell (World.block_lt_of_cell? _ _ (hHeld.2.2.2))).trans (hHeld.2.2.2)
        refine ⟨_, rfl, ?_⟩
        replace HO_5 := Aside0.mk (Kd.R_below (by (with_reducible skip); exact HO_5.out) hb)
        replace HO_6 := Aside0.mk (Kd.R_below (by (with_reducible skip); exact HO_6.out) hb)
        replace HO1232 := Aside0.mk (Kd.R_below (by (with_reducible skip); exact HO1232.out) hb)
        replace BK1220 := Z.bb BK1220 hb
        replace HB := Z.st (Z.bs HB.out GE1220.out) hb
        (try clear hb)
        refine hK.out _ _ ⟨(blk_cell BK1220.out 0).trans rfl, (blk_cell BK1220.out 1).trans rfl, (blk_cell BK1220.out 2).trans rfl, HS3_⟩ (fun hHeld => ?_)
        clear hK K
        refine Z.nm ?_
        refine Z.pv 11 40 20 4095 HT_.out ?_
        refine Z.pv 12 41 20 8191 HT_.out ?_
        refine Z.pv 14 43 20 24575 HT_.out ?_
        refine Z.pv 17 46 20 155647 HT_.out ?_
        refine Z.t4 13 42 20 163839 HT_.out HW_.out hHeld ?_
        refine one_ (i := 15) (N := some 44) (Z.mb 20 196607) rfl rfl (one_of HT_.out (by kernel_rfl)) (by decide) (fun K hK => ?_)
        refine goes_ Try.func90 (by kernel_rfl) rfl #[.agg #[.int .i64 a0_0, .slice A0_1 l0_1.length c0_1, .slice A0_2 l0_2.length c0_2], .int .i64 x7_1] (by rfl) rfl rfl Z.ar ?_
        with_reducible refine (spec_l8State.calls k1 a0_0 _ _ l0_1 _ _ l0_2 x7_1 t1234 _ ?q1 ?q2 ?q3 ?q4 A22.out).mono ?_
        (case q1 => exact Z.cc HR0_1 HB)
        (case q2 => exact HC0_1.out)
        (case q3 => exact Z.cc HR0_2 HB)
        (case q4 => exact HC0_2.out)
        rintro e w39 ⟨v1235, rfl, ho0, hb⟩
        have HS3_ := (hb.cell (World.block_lt_of_cell? _ _ (hHeld.2.2.2))).trans (hHeld.2.2.2)
        refine ⟨_, rfl, ?_⟩
        have HO1236 := Aside0.mk (Kd.R_lower (Kd.R_new' (Kd.R_new' (Kd.R_new' ho0 (Kd.R_lt (by (with_reducible skip); exact HO_5.out))) (Kd.R_lt (by (with_reducible skip); exact HO_6.out))) (Kd.R_lt (by (with_reducible skip); exact HO1232.out))) (below_size (Z.bs HB.out GE1220.out)))
        replace HO_5 := Aside0.mk (Kd.R_elder' (by (with_reducible skip); exact HO_5.out) (Kd.R_base ho0) hb)
        replace HO_6 := Aside0.mk (Kd.R_elder' (by (with_reducible skip); exact HO_6.out) (Kd.R_base ho0) hb)
        replace HO1232 := Aside0.mk (Kd.R_elder' (by (with_reducible skip); exact HO1232.out) (Kd.R_base ho0) hb)
        replace BK1220 := Z.bb BK1220 hb
        replace HB := Z.st (Z.bs HB.out GE1220.out) hb
        (try clear hb)
        (try clear ho0)
        obtain ⟨Ao40, co40, eo40⟩ := Kd.R_slice HO1236.out
        (subst eo40)
        refine hK.out _ _ ⟨(blk_cell BK1220.out 0).trans rfl, (blk_cell BK1220.out 1).trans rfl, (blk_cell BK1220.out 2).trans rfl, HS3_⟩ (fun hHeld => ?_)
        clear hK K
        refine Z.nm ?_
        refine one_ (i := 16) (N := some 45) (Z.mb 20 262143) rfl rfl (one_of HT_.out (by kernel_rfl)) (by decide) (fun K hK => ?_)
        refine goes_ Try.func77 (by kernel_rfl) rfl #[.slice Ao40 t1234.length co40] (by rfl) rfl rfl Z.ar ?_
        with_reducible refine (spec_l8Code.calls k1 _ _ t1234 t1237 _ ?q1 ?q2 A23.out).mono ?_
        (case q1 => repeat (exact (Kd.R_reads' HO1236.out).2.2))
        (case q2 => exact (Kd.R_reads' HO1236.out).2.1)
        rintro e w' ⟨rfl, ⟨nd, rfl⟩⟩
        refine ⟨_, rfl, ?_⟩
        refine hK.out _ _ ⟨(blk_cell BK1220.out 0).trans rfl, (blk_cell BK1220.out 1).trans rfl, (blk_cell BK1220.out 2).trans rfl, hHeld.2.2.2⟩ (fun hHeld => ?_)
        clear hK K
        refine Z.nm ?_
        refine Z.pv 18 47 20 524287 HT_.out ?_
        refine Z.pv 19 48 20 1048575 HT_.out ?_
        refine done_ (done_of HT_.out (by kernel_rfl)) ?_
        try go_wp2
        go_roundg k1
        case measure => have := HK1.out; omega
        case rel => exact ⟨(x5_1), (wrap64 (x7_1 + 1)), (by rfl), H', ⟨by have := HK1.out; omega⟩, ⟨by (with_reducible repeat (apply Kd.R_drewN)); exact Kd.R_mono HO_5.out (fun _ hk => hk.1.1)⟩, ⟨by (with_reducible repeat (apply Kd.R_drewN)); exact Kd.R_mono HO_6.out (fun _ hk => hk.1.1)⟩, ⟨by (with_reducible repeat (refine blk_drewN ?_ _)); exact BK1220.out⟩, ⟨Z.bs HB.out GE1220.out⟩⟩
      ·replace c21 := Bool.eq_false_iff.mpr c21
       subst c21
       rw [if_neg (show ¬ (false = true) by decide)] at H
       have H' := Aside0.mk H
       clear H
       obtain ⟨Ao41, co41, eo41⟩ := Kd.R_slice HO_6.out
       subst eo41
       try go_wp2
       replace HO_5 := Aside0.mk (Kd.R_drew HO_5.out)
       replace HO_6 := Aside0.mk (Kd.R_drew HO_6.out)
       replace BK1220 := Aside0.mk (blk_drew BK1220.out)
       replace HB := Aside0.mk (below_drew1 HB.out)
       have p1229 : 0 ≤ (x7_1 : Int) := Z.od
       have q1229 : x7_1 < (t1226.length : Int) := Z.od
       obtain ⟨ad1229, e1229, hx1229_0⟩ := Kd.at_int (Kd.R_reads' HO_6.out).2.2 x7_1 p1229 q1229
       cases e1229
       replace p1229 := eq_true p1229
       replace q1229 := eq_true q1229
       refine start_ (n := 20) (S := fun w' => w'.cell? ⟨gb1220, 0, none⟩ = some (.int .i64 a0_0) ∧ w'.cell? ⟨gb1220, 1, none⟩ = some (.slice A0_1 l0_1.length c0_1) ∧ w'.cell? ⟨gb1220, 2, none⟩ = some (.slice A0_2 l0_2.length c0_2) ∧ w'.cell? (ad1229.add (x7_1).toNat) = some (.int .i64 (rd t1226 x7_1))) (ds := []) #[false, false, false, false, false, false, false, false, false, false, false, false, false, false, false, false, false, false, false, false] (by kernel_rfl) rfl rfl ⟨(blk_cell BK1220.out 0).trans rfl, (blk_cell BK1220.out 1).trans rfl, (blk_cell BK1220.out 2).trans rfl, hx1229_0⟩ (fun hHeld => ?_); refine with_tabW spec_NeverOf.tab8 spec_NeverOf.bits8 (fun HT_ HW_ => ?_)
       generalize wr.drew = w42 at HO_5 HO_6 BK1220 HB hx1229_0 hHeld ⊢
       refine Z.pv 0 29 20 1 HT_.out ?_
       refine Z.pv 1 30 20 3 HT_.out ?_
       refine Z.pv 2 31 20 7 HT_.out ?_
       refine Z.t4 3 32 20 15 HT_.out HW_.out hHeld ?_
       refine Z.pv 4 33 20 31 HT_.out ?_
       refine Z.pv 5 34 20 63 HT_.out ?_
       refine Z.pv 8 37 20 319 HT_.out ?_
       refine Z.t4 6 35 20 383 HT_.out HW_.out hHeld ?_
       refine Z.t4 7 36 20 511 HT_.out HW_.out hHeld ?_
       refine one_ (i := 9) (N := some 38) (Z.mb 20 1023) rfl rfl (one_of HT_.out (by kernel_rfl)) (by decide) (fun K hK => ?_)
       refine goes_ Try.func90 (by kernel_rfl) rfl #[.agg #[.int .i64 a0_0, .slice A0_1 l0_1.length c0_1, .slice A0_2 l0_2.length c0_2], .int .i64 x7_1] (by rfl) rfl rfl Z.ar ?_
       with_reducible refine (spec_l8State.calls k1 a0_0 _ _ l0_1 _ _ l0_2 x7_1 t1230 _ ?q1 ?q2 ?q3 ?q4 A19.out).mono ?_
       (case q1 => exact Z.cc HR0_1 HB)
       (case q2 => exact HC0_1.out)
       (case q3 => exact Z.cc HR0_2 HB)
       (case q4 => exact HC0_2.out)
       rintro e w43 ⟨v1231, rfl, ho0, hb⟩
       have HS3_ := (hb.cell (World.block_lt_of_cell? _ _ (hHeld.2.2.2))).trans (hHeld.2.2.2)
       refine ⟨_, rfl, ?_⟩
       have HO1232 := Aside0.mk (Kd.R_lower (Kd.R_new' (Kd.R_new' ho0 (Kd.R_lt (by (with_reducible skip); exact HO_5.out))) (Kd.R_lt (by (with_reducible skip); exact HO_6.out))) (below_size (Z.bs HB.out GE1220.out)))
       replace HO_5 := Aside0.mk (Kd.R_elder' (by (with_reducible skip); exact HO_5.out) (Kd.R_base ho0) hb)
       replace HO_6 := Aside0.mk (Kd.R_elder' (by (with_reducible skip); exact HO_6.out) (Kd.R_base ho0) hb)
       replace BK1220 := Z.bb BK1220 hb
       replace HB := Z.st (Z.bs HB.out GE1220.out) hb
       (try clear hb)
       (try clear ho0)
       obtain ⟨Ao44, co44, eo44⟩ := Kd.R_slice HO1232.out
       (subst eo44)
       refine hK.out _ _ ⟨(blk_cell BK1220.out 0).trans rfl, (blk_cell BK1220.out 1).trans rfl, (blk_cell BK1220.out 2).trans rfl, HS3_⟩ (fun hHeld => ?_)
       clear hK K
       refine Z.nm ?_
       refine one_ (i := 10) (N := some 39) (Z.mb 20 2047) rfl rfl (one_of HT_.out (by kernel_rfl)) (by decide) (fun K hK => ?_)
       refine goes_ Try.func61 (by kernel_rfl) rfl #[.agg #[.int .i64 a0_0, .slice A0_1 l0_1.length c0_1, .slice A0_2 l0_2.length c0_2], .slice Ao44 t1230.length co44] (by rfl) rfl rfl Z.ar ?_
       with_reducible refine (spec_StateOk.calls k1 a0_0 _ _ l0_1 _ _ l0_2 _ _ t1230 false _ ?q1 ?q2 ?q3 ?q4 ?q5 ?q6 A20.out).mono ?_
       (case q1 => exact Z.cc HR0_1 HB)
       (case q2 => exact HC0_1.out)
       (case q3 => exact Z.cc HR0_2 HB)
       (case q4 => exact HC0_2.out)
       (case q5 => repeat (exact (Kd.R_reads' HO1232.out).2.2))
       (case q6 => exact (Kd.R_reads' HO1232.out).2.1)
       rintro e w45 ⟨rfl, hb⟩
       have HS3_ := (hb.cell (World.block_lt_of_cell? _ _ (hHeld.2.2.2))).trans (hHeld.2.2.2)
       refine ⟨_, rfl, ?_⟩
       replace HO_5 := Aside0.mk (Kd.R_below (by (with_reducible skip); exact HO_5.out) hb)
       replace HO_6 := Aside0.mk (Kd.R_below (by (with_reducible skip); exact HO_6.out) hb)
       replace HO1232 := Aside0.mk (Kd.R_below (by (with_reducible skip); exact HO1232.out) hb)
       replace BK1220 := Z.bb BK1220 hb
       replace HB := Z.st (Z.bs HB.out GE1220.out) hb
       (try clear hb)
       refine hK.out _ _ ⟨(blk_cell BK1220.out 0).trans rfl, (blk_cell BK1220.out 1).trans rfl, (blk_cell BK1220.out 2).trans rfl, HS3_⟩ (fun hHeld => ?_)
       clear hK K
       refine Z.nm ?_
       refine Z.pv 11 40 20 4095 HT_.out ?_
       refine Z.pv 12 41 20 8191 HT_.out ?_
       refine Z.pu 13 42 20 16383 HT_.out ?_
       refine Z.pu 14 43 20 32767 HT_.out ?_
       refine Z.pu 15 44 20 65535 HT_.out ?_
       refine Z.pu 16 45 20 131071 HT_.out ?_
       refine Z.pu 17 46 20 262143 HT_.out ?_
       refine Z.pu 18 47 20 524287 HT_.out ?_
       refine Z.pv 19 48 20 1048575 HT_.out ?_
       refine done_ (done_of HT_.out (by kernel_rfl)) ?_
       try go_wp2
       go_roundg k1
       case measure => have := HK1.out; omega
       case rel => exact ⟨(x5_1), (wrap64 (x7_1 + 1)), (by rfl), H', ⟨by have := HK1.out; omega⟩, ⟨by (with_reducible skip); exact Kd.R_mono HO_5.out (fun _ hk => hk.1)⟩, ⟨by (with_reducible skip); exact Kd.R_mono HO_6.out (fun _ hk => hk.1)⟩, ⟨by (with_reducible skip); exact BK1220.out⟩, ⟨Z.bs HB.out GE1220.out⟩⟩
     ·rw [if_neg c18] at H
      have c18b0 := decide_eq_false c18
      clear c18
      have H' := Aside0.mk H
      clear H
      obtain ⟨Ao46, co46, eo46⟩ := Kd.R_slice HO_6.out
      subst eo46
      try go_wp2
      replace HO_5 := Aside0.mk (Kd.R_drew HO_5.out)
      replace HO_6 := Aside0.mk (Kd.R_drew HO_6.out)
      replace BK1220 := Aside0.mk (blk_drew BK1220.out)
      replace HB := Aside0.mk (below_drew1 HB.out)
      have p1229 : 0 ≤ (x7_1 : Int) := Z.od
      have q1229 : x7_1 < (t1226.length : Int) := Z.od
      obtain ⟨ad1229, e1229, hx1229_0⟩ := Kd.at_int (Kd.R_reads' HO_6.out).2.2 x7_1 p1229 q1229
      cases e1229
      replace p1229 := eq_true p1229
      replace q1229 := eq_true q1229
      refine start_ (n := 20) (S := fun w' => w'.cell? (ad1229.add (x7_1).toNat) = some (.int .i64 (rd t1226 x7_1))) (ds := []) #[false, false, false, false, false, false, false, false, false, false, false, false, false, false, false, false, false, false, false, false] (by kernel_rfl) rfl rfl (hx1229_0) (fun hHeld => ?_); refine with_tabW spec_NeverOf.tab8 spec_NeverOf.bits8 (fun HT_ HW_ => ?_)
      generalize wr.drew = w47 at HO_5 HO_6 BK1220 HB hx1229_0 hHeld ⊢
      refine Z.pv 0 29 20 1 HT_.out ?_
      refine Z.pv 1 30 20 3 HT_.out ?_
      refine Z.pv 2 31 20 7 HT_.out ?_
      refine take_ (i := 3) (N := some 32) (v := ?_) (a' := ?_) #[true, true, true, true, false, false, false, false, false, false, false, false, false, false, false, false, false, false, false, false] rfl rfl (take_ofW HT_.out HW_.out (by kernel_rfl)) (fun _ _ _ h => h) (Or.inl ⟨by rfl, ?_⟩) hHeld ?_ ?_
      rotate_left
      ·intro w' s0
       go_simp
       with_reducible rfl
      rotate_left
      ·simp only [Act.put, List.setIfInBounds_toArray, List.set_cons_zero, List.set_cons_succ, i64_w, i32_w]
       rfl
      refine Z.pv 4 33 20 31 HT_.out ?_
      refine Z.pv 5 34 20 63 HT_.out ?_
      refine Z.pu 6 35 20 127 HT_.out ?_
      refine Z.pu 7 36 20 255 HT_.out ?_
      refine Z.pu 8 37 20 511 HT_.out ?_
      refine Z.pu 9 38 20 1023 HT_.out ?_
      refine Z.pu 10 39 20 2047 HT_.out ?_
      refine Z.pv 11 40 20 4095 HT_.out ?_
      refine Z.pv 12 41 20 8191 HT_.out ?_
      refine Z.pu 13 42 20 16383 HT_.out ?_
      refine Z.pu 14 43 20 32767 HT_.out ?_
      refine Z.pu 15 44 20 65535 HT_.out ?_
      refine Z.pu 16 45 20 131071 HT_.out ?_
      refine Z.pu 17 46 20 262143 HT_.out ?_
      refine Z.pu 18 47 20 524287 HT_.out ?_
      refine Z.pv 19 48 20 1048575 HT_.out ?_
      refine done_ (done_of HT_.out (by kernel_rfl)) ?_
      try go_wp2
      go_roundg k1
      case measure => have := HK1.out; omega
      case rel => exact ⟨(x5_1), (wrap64 (x7_1 + 1)), (by rfl), H', ⟨by have := HK1.out; omega⟩, ⟨by (with_reducible skip); exact HO_5.out⟩, ⟨by (with_reducible skip); exact HO_6.out⟩, ⟨by (with_reducible skip); exact BK1220.out⟩, ⟨Z.bs HB.out GE1220.out⟩⟩
    ·rw [if_neg c16] at H
     have c16b0 := decide_eq_false c16
     clear c16
     obtain rfl := Option.some.inj H
     obtain ⟨Ao48, co48, eo48⟩ := Kd.R_slice HO_6.out
     subst eo48
     go_wp2
     go_ret
     exact ⟨_, by rfl, by (with_reducible skip); exact Kd.R_mono HO_5.out (fun _ hk => trivial), Z.bs HB.out GE1220.out⟩
 ·replace c4 := Bool.eq_false_iff.mpr c4
  subst c4
  rw [if_neg (show ¬ (false = true) by decide)] at H
  obtain rfl := Option.some.inj H
  go_enter Try.func51, Try.ntmps51
  go_wp2_with (first | ((with_reducible refine gate_dst (N := 2) rfl ?_); refine Z.bx #[.int .i64 a0_0, .slice A0_1 l0_1.length c0_1, .slice A0_2 l0_2.length c0_2] 35 HB ?_; clear HB; intro gb1220 w49 BK1220 GE1220 HB hg hb; have GW1220 := GE1220; clear hb hg) | ((with_reducible refine gate_dst (N := 8) rfl ?_); refine Kd.R_lit (Kd.int .i64) _ 3 ?hg (N := 8) ?hd (xs := ([] : List Int)) (inner := []) (ok := fun _ => True) (okp := fun _ => True) ?hr ?hp (fun _ hk => hk) trivial (Below.refl _ _) (Nat.le_refl _) (by simp) ?_; (case hd | hg => rfl); (case hr => (go_simp; done)); (case hp => exact (Reps.none _ _)); intro v1222 w50 ho51 hb hg_ hnew_; clear hg_ hnew_; (rw [← Ny1221.out] at ho51); have HO1223 := Aside0.mk (Kd.R_lower ho51 (below_size (Z.bs HB.out GE1220.out))); replace BK1220 := Z.bb BK1220 hb; replace HB := Z.st (Z.bs HB.out GE1220.out) hb; clear hb ho51; have hcz52 := Z.c3 BK1220.out) | ((with_reducible refine gate_callee (f := 61) rfl ?_); refine goesL_ (some 11) rfl rfl Try.func61 (by kernel_rfl) rfl #[.agg #[.int .i64 a0_0, .slice A0_1 l0_1.length c0_1, .slice A0_2 l0_2.length c0_2], .slice A1 l1.length c1] rfl Z.ar ?_; (with_reducible refine (spec_StateOk.calls k a0_0 _ _ l0_1 _ _ l0_2 _ _ l1 false _ ?q1 ?q2 ?q3 ?q4 ?q5 ?q6 A3.out).mono ?_); (case q1 => exact Z.cc HR0_1 HB); (case q2 => exact HC0_1.out); (case q3 => exact Z.cc HR0_2 HB); (case q4 => exact HC0_2.out); (case q5 => exact Z.cc HR1 HB); (case q6 => exact HC1.out); rintro e w53 ⟨rfl, hb⟩; refine ⟨_, rfl, ?_⟩; replace HO1223 := Aside0.mk (Kd.R_below (by (with_reducible skip); exact HO1223.out) hb); replace BK1220 := Z.bb BK1220 hb; replace HB := Z.st (Z.bs HB.out GE1220.out) hb; (try clear hb)))
  go_ret
  exact ⟨_, by rfl, by (with_reducible skip); exact HO1223.out, Z.bs HB.out GE1220.out⟩

end Go.Proofs.Ytcafckapdgaogaa.PAll

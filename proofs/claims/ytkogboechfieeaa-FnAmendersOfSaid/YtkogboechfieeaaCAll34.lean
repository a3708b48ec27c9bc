/- Walks of functions that laws of this seat reach, in the form of the print. -/
import Derived.Test.YtkogboechfieeaaCAll28
import Derived.Test.YtkogboechfieeaaCAll33
-- PRINTED
namespace Go.Proofs.Ytkogboechfieeaa.PAll
open Go.RowKit Go.Proofs.YtkogboechfieeaaW.PrintWords Go.Proofs.YtkogboechfieeaaW.PrintLast Go.Proofs.YtkogboechfieeaaW.PrintMore
attribute [local go_sem] max2_int min2_int max_two min_two max_three min_three max_four min_four
set_option linter.unusedVariables false
set_option linter.unusedSimpArgs false

/-! ### spec_AmendersOf: function 49 -/
mutual
def spec_AmendersOf.j0 : Nat → List Int → List Int → Bool → Int → List Int → List (List (S37)) → Option (List Int)
 | 0, _, _, _, _, _, _ => none
 | k + 1, x1, x2, x18, x1284000, x1284001, x1284002 => if x18 = true then (some (([] : List Int))) else (spec_AmendersOf.l0 k x1 x2 (([] : List Int)) 0 x1284000 x1284001 x1284002)
def spec_AmendersOf.l0 : Nat → List Int → List Int → List Int → Int → Int → List Int → List (List (S37)) → Option (List Int)
 | 0, _, _, _, _, _, _, _ => none
 | k + 1, x1, x2, x7, x8, x1284000, x1284001, x1284002 => if 0 ≤ x1284000 then (if x8 < (shl .i64 1 x1284000) then ((spec_l8Code.f k x1).bind fun t1295 => ((spec_l8Reach.f k x1284000 x1284001 x1284002 t1295 x8).bind fun t1296 => ((spec_l8Code.f k x2).bind fun t1299 => (if 0 ≤ t1299 then (if t1299 < (t1296.length : Int) then (if (rd t1296 t1299) ≥ 0 then (if x7.length < 17592186044416 then (spec_AmendersOf.l0 k x1 x2 (x7 ++ [x8]) (wrap64 (x8 + 1)) x1284000 x1284001 x1284002) else (none)) else (spec_AmendersOf.l0 k x1 x2 x7 (wrap64 (x8 + 1)) x1284000 x1284001 x1284002)) else (none)) else (none))))) else ((spec_l1Least.f k x1284000 x7).bind fun t1292 => (some t1292))) else (none)
end
def spec_AmendersOf.f (k : Nat) (a0_0 : Int) (l0_1 : List Int) (l0_2 : List (List (S37))) (l1 : List Int) (l2 : List Int) : Option (List Int) := (spec_StateOk.f k a0_0 l0_1 l0_2 l1).bind fun t1284 => (if t1284 = true then ((spec_StateOk.f k a0_0 l0_1 l0_2 l2).bind fun t1285 => (spec_AmendersOf.j0 k l1 l2 (!t1285) a0_0 l0_1 l0_2)) else (spec_AmendersOf.j0 k l1 l2 true a0_0 l0_1 l0_2))
def spec_AmendersOf.T7 : Bool × List (List Nat × List Nat) := (true, [([], []), ([], []), ([1], [1]), ([], []), ([0, 2, 3, 2], [0, 2, 3]), ([], []), ([5, 4], [5]), ([4, 6], [4, 6]), ([7], [7]), ([8], [8])])
def spec_AmendersOf.B7 : List Nat := [0, 0, 2, 0, 15, 0, 63, 127, 255, 511]
theorem spec_AmendersOf.tab7 : rtab .any (opsOf Try.f49 7) = spec_AmendersOf.T7 := by kernel_rfl
theorem spec_AmendersOf.bits7 : waitsOk spec_AmendersOf.T7.2 spec_AmendersOf.B7 = true := by kernel_rfl
set_option maxHeartbeats 8000000 in
set_option maxRecDepth 100000 in
theorem spec_AmendersOf.calls (k : Nat) (a0_0 : Int) (A0_1 : Option Addr) (c0_1 : Nat) (l0_1 : List Int) (A0_2 : Option Addr) (c0_2 : Nat) (l0_2 : List (List (S37))) (A1 : Option Addr) (c1 : Nat) (l1 : List Int) (A2 : Option Addr) (c2 : Nat) (l2 : List Int) (r : List Int) (w : World) (hr0_1 : Kd.C (Kd.int .i64) w A0_1 l0_1.length l0_1) (hc0_1 : l0_1.length ≤ c0_1) (hr0_2 : Kd.C (Kd.slice 37 k37) w A0_2 l0_2.length l0_2) (hc0_2 : l0_2.length ≤ c0_2) (hr1 : Kd.C (Kd.int .i64) w A1 l1.length l1) (hc1 : l1.length ≤ c1) (hr2 : Kd.C (Kd.int .i64) w A2 l2.length l2) (hc2 : l2.length ≤ c2) (h : spec_AmendersOf.f k a0_0 l0_1 l0_2 l1 l2 = some r) :
  Calls Try.prog 49 #[.agg #[.int .i64 a0_0, .slice A0_1 l0_1.length c0_1, .slice A0_2 l0_2.length c0_2], .slice A1 l1.length c1, .slice A2 l2.length c2] w fun e w' => ∃ v0_ : Value, e = .returned (v0_) ∧ Kd.R (Kd.int .i64) 3 w' w.heap.size (fun _ => True) v0_ r ∧ Below w.heap.size w w' := by
 have hu35 := Try.underlying28
 have HR0_1 := Z.k hr0_1
 have HC0_1 := Z.k hc0_1
 clear hr0_1 hc0_1
 have HR0_2 := Z.k hr0_2
 have HC0_2 := Z.k hc0_2
 clear hr0_2 hc0_2
 have HR1 := Z.k hr1
 have HC1 := Z.k hc1
 clear hr1 hc1
 have HR2 := Z.k hr2
 have HC2 := Z.k hc2
 clear hr2 hc2
 have HB := Z.k (Below.refl w.heap.size w)
 have H := h
 clear h
 unfold spec_AmendersOf.f at H
 have HC4 := Z.k H
 clear H
 go_enter Try.func49, Try.ntmps49
 go_upto_region 1 with (((with_reducible refine gate_dst (N := 3) rfl ?_); refine Z.bx #[.int .i64 a0_0, .slice A0_1 l0_1.length c0_1, .slice A0_2 l0_2.length c0_2] 28 HB ?_; clear HB; intro gb1283 w5 BK1283 GE1283 HB hg hb; have GW1283 := GE1283; clear hb hg))
 go_cut [18] (fun v18 wc => ∃ (kq : Nat) (x18_3 : Bool), v18 = .bool x18_3 ∧ Aside0 (spec_AmendersOf.j0 kq l1 l2 x18_3 a0_0 l0_1 l0_2 = some r) ∧ Aside0 (kq ≤ k) ∧ Aside0 (wc.heap[gb1283]? = some (.cells #[.int .i64 a0_0, (.slice A0_1 l0_1.length c0_1), (.slice A0_2 l0_2.length c0_2)] 28 (0, 0))) ∧ Aside0 (Below w.heap.size w wc))
 case first =>
  have H := HC4.out
  clear HC4
  revert H; refine Z.bd ?_; rintro t1284 A6 H
  by_cases c7 : t1284 = true
  ·subst c7
   rw [if_pos rfl] at H
   revert H; refine Z.bd ?_; rintro t1285 A8 H
   have H' := Z.k H
   clear H
   have hcz9 := Z.c3 BK1283.out
   go_wp2_with (first | ((with_reducible refine gate_callee (f := 16) rfl ?_); refine goesL_ (some 11) rfl rfl Try.func16 (by kernel_rfl) rfl #[.agg #[.int .i64 a0_0, .slice A0_1 l0_1.length c0_1, .slice A0_2 l0_2.length c0_2], .slice A1 l1.length c1] rfl Z.ar ?_; (with_reducible refine (spec_StateOk.calls k a0_0 _ _ l0_1 _ _ l0_2 _ _ l1 true _ ?q1 ?q2 ?q3 ?q4 ?q5 ?q6 A6.out).mono ?_); (case q1 => exact Z.cc HR0_1 HB); (case q2 => exact HC0_1.out); (case q3 => exact Z.cc HR0_2 HB); (case q4 => exact HC0_2.out); (case q5 => exact Z.cc HR1 HB); (case q6 => exact HC1.out); rintro e w10 ⟨rfl, hb⟩; refine ⟨_, rfl, ?_⟩; replace BK1283 := Z.bb BK1283 hb; replace HB := Z.st (Z.bs HB.out GE1283.out) hb; (try clear hb); have hcz11 := Z.c3 BK1283.out) | (go_at_call 16; (with_reducible refine (spec_StateOk.calls k a0_0 _ _ l0_1 _ _ l0_2 _ _ l2 t1285 _ ?q1 ?q2 ?q3 ?q4 ?q5 ?q6 A8.out).mono ?_); (case q1 => exact Z.cc HR0_1 HB); (case q2 => exact HC0_1.out); (case q3 => exact Z.cc HR0_2 HB); (case q4 => exact HC0_2.out); (case q5 => exact Z.cc HR2 HB); (case q6 => exact HC2.out); rintro e w12 ⟨rfl, hb⟩; replace BK1283 := Z.bb BK1283 hb; replace HB := Z.st (Z.bs HB.out GE1283.out) hb; (try clear hb)))
   go_meet
   case rel => exact ⟨_, (!t1285), (by rfl), H', ⟨by omega⟩, ⟨by (with_reducible skip); exact BK1283.out⟩, ⟨Z.bs HB.out GE1283.out⟩⟩
  replace c7 := Bool.eq_false_iff.mpr c7
  subst c7
  rw [if_neg (show ¬ (false = true) by decide)] at H
  have H' := Z.k H
  clear H
  have hcz13 := Z.c3 BK1283.out
  go_wp2_with (((with_reducible refine gate_callee (f := 16) rfl ?_); refine goesL_ (some 11) rfl rfl Try.func16 (by kernel_rfl) rfl #[.agg #[.int .i64 a0_0, .slice A0_1 l0_1.length c0_1, .slice A0_2 l0_2.length c0_2], .slice A1 l1.length c1] rfl Z.ar ?_; (with_reducible refine (spec_StateOk.calls k a0_0 _ _ l0_1 _ _ l0_2 _ _ l1 false _ ?q1 ?q2 ?q3 ?q4 ?q5 ?q6 A6.out).mono ?_); (case q1 => exact Z.cc HR0_1 HB); (case q2 => exact HC0_1.out); (case q3 => exact Z.cc HR0_2 HB); (case q4 => exact HC0_2.out); (case q5 => exact Z.cc HR1 HB); (case q6 => exact HC1.out); rintro e w14 ⟨rfl, hb⟩; refine ⟨_, rfl, ?_⟩; replace BK1283 := Z.bb BK1283 hb; replace HB := Z.st (Z.bs HB.out GE1283.out) hb; (try clear hb)))
  go_meet
  case rel => exact ⟨_, (true), (by rfl), H', ⟨by omega⟩, ⟨by (with_reducible skip); exact BK1283.out⟩, ⟨Z.bs HB.out GE1283.out⟩⟩
 case rest =>
  clear HC4
  obtain ⟨kq, x18_3, rfl, HA, HJ3, BK1283, HB⟩ := hcut
  cases kq with
  | zero => exact absurd HA.out (by simp [spec_AmendersOf.j0])
  | succ kj3 =>
   have H := HA.out
   clear HA
   simp only [spec_AmendersOf.j0] at H
   by_cases c15 : x18_3 = true
   ·subst c15
    rw [if_pos rfl] at H
    obtain ⟨y1286, hy1286⟩ : ∃ y_ : List Int, y_ = (([] : List Int)) := ⟨_, rfl⟩
    replace H : (some y1286) = some r := by (rw [hy1286]; with_reducible exact H)
    have Ny1286 := Z.k hy1286
    clear hy1286
    obtain rfl := Option.some.inj H
    go_wp2_with (((with_reducible refine gate_dst (N := 19) rfl ?_); refine Kd.R_lit (Kd.int .i64) _ 3 ?hg (N := 19) ?hd (xs := ([] : List Int)) (inner := []) (ok := fun _ => True) (okp := fun _ => True) ?hr ?hp (fun _ hk => hk) trivial (Below.refl _ _) (Nat.le_refl _) (by simp) ?_; (case hd | hg => rfl); (case hr => (go_simp; done)); (case hp => exact (Reps.none _ _)); intro v1287 w16 ho17 hb hg_ hnew_; clear hg_ hnew_; (rw [← Ny1286.out] at ho17); have HO1288 := Z.k (Kd.R_lower ho17 (below_size (Z.bs HB.out GE1283.out))); replace BK1283 := Z.bb BK1283 hb; replace HB := Z.st (Z.bs HB.out GE1283.out) hb; clear hb ho17))
    go_ret
    exact ⟨_, by rfl, by (with_reducible skip); exact HO1288.out, Z.bs HB.out GE1283.out⟩
   replace c15 := Bool.eq_false_iff.mpr c15
   subst c15
   rw [if_neg (show ¬ (false = true) by decide)] at H
   obtain ⟨y1289, hy1289⟩ : ∃ y_ : List Int, y_ = (([] : List Int)) := ⟨_, rfl⟩
   replace H : (spec_AmendersOf.l0 kj3 l1 l2 y1289 0 a0_0 l0_1 l0_2) = some r := by (rw [hy1289]; with_reducible exact H)
   have Ny1289 := Z.k hy1289
   clear hy1289
   have H' := Z.k H
   clear H
   go_wp2_with (((with_reducible refine gate_dst (N := 20) rfl ?_); refine Kd.R_lit (Kd.int .i64) _ 3 ?hg (N := 20) ?hd (xs := ([] : List Int)) (inner := []) (ok := fun _ => True) (okp := fun _ => True) ?hr ?hp (fun _ hk => hk) trivial (Below.refl _ _) (Nat.le_refl _) (by simp) ?_; (case hd | hg => rfl); (case hr => (go_simp; done)); (case hp => exact (Reps.none _ _)); intro v1290 w18 ho19 hb hg_ hnew_; clear hg_ hnew_; (rw [← Ny1289.out] at ho19); have HO1291 := Z.k (Kd.R_lower ho19 (below_size (Z.bs HB.out GE1283.out))); replace BK1283 := Z.bb BK1283 hb; replace HB := Z.st (Z.bs HB.out GE1283.out) hb; clear hb ho19))
   go_loopg [7, 8] kj3 (fun kq v7 v8 w' => ∃ (x7_2 : List Int) (x8_2 : Int), v8 = .int .i64 x8_2 ∧ Aside0 (spec_AmendersOf.l0 kq l1 l2 x7_2 x8_2 a0_0 l0_1 l0_2 = some r) ∧ Aside0 (kq ≤ kj3) ∧ Aside0 (Kd.R (Kd.int .i64) 3 w' w.heap.size (fun _ => True) v7 x7_2) ∧ Aside0 (w'.heap[gb1283]? = some (.cells #[.int .i64 a0_0, (.slice A0_1 l0_1.length c0_1), (.slice A0_2 l0_2.length c0_2)] 28 (0, 0))) ∧ Aside0 (Below w.heap.size w w'))
   case atStart => exact ⟨(y1289), (0), (by rfl), H', ⟨Nat.le_refl _⟩, ⟨by (with_reducible skip); exact HO1291.out⟩, ⟨by (with_reducible skip); exact BK1283.out⟩, ⟨Z.bs HB.out GE1283.out⟩⟩
   clear H'
   obtain ⟨x7_2, x8_2, rfl, HA, HK2, HO_7, BK1283, HB⟩ := hrel
   cases gk with
   | zero => exact absurd HA.out (by simp [spec_AmendersOf.l0])
   | succ k2 =>
    have H := HA.out
    clear HA
    simp only [spec_AmendersOf.l0] at H
    obtain ⟨c20, H⟩ := Z.ifp H
    have c20b0 := eq_true c20
    have c20b1 : decide (0 ≤ a0_0) = true := decide_eq_true c20
    clear c20
    obtain ⟨ji21, hji21⟩ : ∃ j_ : Int, (shl .i64 1 a0_0) = j_ := ⟨_, rfl⟩
    replace H : (if x8_2 < (ji21) then ((spec_l8Code.f k2 l1).bind fun t1295 => ((spec_l8Reach.f k2 a0_0 l0_1 l0_2 t1295 x8_2).bind fun t1296 => ((spec_l8Code.f k2 l2).bind fun t1299 => (if 0 ≤ t1299 then (if t1299 < (t1296.length : Int) then (if (rd t1296 t1299) ≥ 0 then (if x7_2.length < 17592186044416 then (spec_AmendersOf.l0 k2 l1 l2 (x7_2 ++ [x8_2]) (wrap64 (x8_2 + 1)) a0_0 l0_1 l0_2) else (none)) else (spec_AmendersOf.l0 k2 l1 l2 x7_2 (wrap64 (x8_2 + 1)) a0_0 l0_1 l0_2)) else (none)) else (none))))) else ((spec_l1Least.f k2 a0_0 x7_2).bind fun t1292 => (some t1292))) = some r := by (rw [hji21] at H; exact H)
    have hji21_ : (IntKind.i64.wrap (1 * 2 ^ min a0_0.toNat 64)) = ji21 := hji21
    have hji21z : a0_0 ≤ 64 → (IntKind.i64.wrap (1 * 2 ^ a0_0.toNat)) = ji21 := shl_small hji21
    have hji21u : (IntKind.i64.wrap (2 ^ min a0_0.toNat 64)) = ji21 := by have h_ := hji21_; rw [Int.one_mul] at h_; exact h_
    have hji21v : a0_0 ≤ 64 → (IntKind.i64.wrap (2 ^ a0_0.toNat)) = ji21 := fun hle_ => by have h_ := hji21z hle_; rw [Int.one_mul] at h_; exact h_
    have hji21y : (wrap64 (1 * 2 ^ min a0_0.toNat 64)) = ji21 := (i64_w _).symm.trans hji21_
    have hji21x : a0_0 ≤ 64 → (wrap64 (1 * 2 ^ a0_0.toNat)) = ji21 := fun h_ => (i64_w _).symm.trans (hji21z h_)
    revert H; refine Z.fm ?_ ?_ <;> intro c22b0 H
    ·revert H; refine Z.bd ?_; rintro t1292 A39 H
     obtain rfl := Option.some.inj H
     have hcz40 := Z.c3 BK1283.out
     obtain ⟨Ao41, co41, eo41⟩ := Kd.R_slice HO_7.out
     subst eo41
     go_wp2_with (((with_reducible refine gate_callee (f := 86) rfl ?_); refine goesL_ (some 47) rfl rfl Try.func86 (by kernel_rfl) rfl #[.int .i64 a0_0, .slice Ao41 x7_2.length co41] rfl Z.ar ?_; (with_reducible refine (spec_l1Least.calls k2 a0_0 _ _ x7_2 t1292 _ ?q1 ?q2 A39.out).mono ?_); (case q1 => repeat (exact (Kd.R_reads' HO_7.out).2.2)); (case q2 => exact (Kd.R_reads' HO_7.out).2.1); rintro e w42 ⟨v1293, rfl, ho0, hb⟩; refine ⟨_, rfl, ?_⟩; have HO1294 := Z.k (Kd.R_lower (Kd.R_new' ho0 (Kd.R_lt (by (with_reducible skip); exact HO_7.out))) (below_size (Z.bs HB.out GE1283.out))); replace HO_7 := Z.k (Kd.R_elder' (by (with_reducible skip); exact HO_7.out) (Kd.R_base ho0) hb); replace BK1283 := Z.bb BK1283 hb; replace HB := Z.st (Z.bs HB.out GE1283.out) hb; (try clear hb); (try clear ho0)))
     go_ret
     exact ⟨_, by rfl, by (with_reducible skip); exact Kd.R_mono HO1294.out (fun _ hk => trivial), Z.bs HB.out GE1283.out⟩
    revert H; refine Z.bd ?_; rintro t1295 A23 H
    revert H; refine Z.bd ?_; rintro t1296 A24 H
    revert H; refine Z.bd ?_; rintro t1299 A25 H
    obtain ⟨c26b0, H⟩ := Z.fd H
    obtain ⟨c27b0, H⟩ := Z.fd H
    revert H; refine Z.fm ?_ ?_ <;> intro c28b0 H
    ·have H' := Z.k H
     clear H
     have hcz35 := Z.c3 BK1283.out
     try go_wp2
     replace HO_7 := Z.k (Kd.R_drew HO_7.out)
     replace BK1283 := Z.k (blk_drew BK1283.out)
     replace HB := Z.k (below_drew1 HB.out)
     refine start_ (n := 10) (S := fun w' => w'.cell? ⟨gb1283, 0, none⟩ = some (.int .i64 a0_0) ∧ w'.cell? ⟨gb1283, 1, none⟩ = some (.slice A0_1 l0_1.length c0_1) ∧ w'.cell? ⟨gb1283, 2, none⟩ = some (.slice A0_2 l0_2.length c0_2)) (ds := []) (Z.mb 10 0) (by kernel_rfl) rfl rfl ⟨Z.b BK1283 0, Z.b BK1283 1, Z.b BK1283 2⟩ (fun hHeld => ?_); refine with_tabW spec_AmendersOf.tab7 spec_AmendersOf.bits7 (fun HT_ HW_ => ?_)
     generalize wr.drew = w36 at HO_7 BK1283 HB hHeld ⊢
     refine Z.pv 1 30 10 2 HT_.out ?_
     refine Z.pv 3 32 10 10 HT_.out ?_
     refine Z.pv 5 34 10 42 HT_.out ?_
     refine Z.t3 0 29 10 43 HT_.out HW_.out hHeld ?_
     refine one_ (i := 2) (N := some 31) (Z.mb 10 47) rfl rfl (one_of HT_.out (by kernel_rfl)) (by decide) (fun K hK => ?_)
     refine goes_ Try.func80 (by kernel_rfl) rfl #[.slice A1 l1.length c1] (by rfl) rfl rfl Z.ar ?_
     with_reducible refine (spec_l8Code.calls k2 _ _ l1 t1295 _ ?q1 ?q2 A23.out).mono ?_
     (case q1 => exact Z.cc HR1 HB)
     (case q2 => exact HC1.out)
     rintro e w' ⟨rfl, ⟨nd, rfl⟩⟩
     refine ⟨_, rfl, ?_⟩
     refine hK.out _ _ ⟨Z.b BK1283 0, Z.b BK1283 1, Z.b BK1283 2⟩ (fun hHeld => ?_)
     clear hK K
     refine Z.nm ?_
     refine one_ (i := 4) (N := some 33) (Z.mb 10 63) rfl rfl (one_of HT_.out (by kernel_rfl)) (by decide) (fun K hK => ?_)
     refine goes_ Try.func79 (by kernel_rfl) rfl #[.agg #[.int .i64 a0_0, .slice A0_1 l0_1.length c0_1, .slice A0_2 l0_2.length c0_2], .int .i64 t1295, .int .i64 x8_2] (by rfl) rfl rfl Z.ar ?_
     with_reducible refine (spec_l8Reach.calls k2 a0_0 _ _ l0_1 _ _ l0_2 t1295 x8_2 t1296 _ ?q1 ?q2 ?q3 ?q4 A24.out).mono ?_
     (case q1 => repeat (exact (Kd.C_below HR0_1.out (Z.bs HB.out GE1283.out))))
     (case q2 => exact HC0_1.out)
     (case q3 => repeat (exact (Kd.C_below HR0_2.out (Z.bs HB.out GE1283.out))))
     (case q4 => exact HC0_2.out)
     rintro e w37 ⟨v1297, rfl, ho0, hb⟩
     refine ⟨_, rfl, ?_⟩
     have HO1298 := Z.k (Kd.R_lower (Kd.R_new' ho0 (Kd.R_lt (by (with_reducible repeat (apply Kd.R_drewN)); exact HO_7.out))) (below_size (Z.bs HB.out GE1283.out)))
     replace HO_7 := Z.k (Kd.R_elder' (by (with_reducible repeat (apply Kd.R_drewN)); exact HO_7.out) (Kd.R_base ho0) hb)
     replace BK1283 := Z.bb BK1283 hb
     replace HB := Z.st (Z.bs HB.out GE1283.out) hb
     (try clear hb)
     (try clear ho0)
     refine hK.out _ _ ⟨Z.b BK1283 0, Z.b BK1283 1, Z.b BK1283 2⟩ (fun hHeld => ?_)
     clear hK K
     refine Z.nm ?_
     refine one_ (i := 6) (N := some 35) (Z.mb 10 127) rfl rfl (one_of HT_.out (by kernel_rfl)) (by decide) (fun K hK => ?_)
     refine goes_ Try.func80 (by kernel_rfl) rfl #[.slice A2 l2.length c2] (by rfl) rfl rfl Z.ar ?_
     with_reducible refine (spec_l8Code.calls k2 _ _ l2 t1299 _ ?q1 ?q2 A25.out).mono ?_
     (case q1 => exact Z.cc HR2 HB)
     (case q2 => exact HC2.out)
     rintro e w' ⟨rfl, ⟨nd, rfl⟩⟩
     refine ⟨_, rfl, ?_⟩
     obtain ⟨Ao38, co38, eo38⟩ := Kd.R_slice HO1298.out
     (subst eo38)
     have p1300 : 0 ≤ (t1299 : Int) := Z.od
     have q1300 : t1299 < (t1296.length : Int) := Z.od
     obtain ⟨ad1300, e1300, hx1300_0⟩ := Kd.at_int (Kd.R_reads' HO1298.out).2.2 t1299 p1300 q1300
     cases e1300
     replace p1300 := eq_true p1300
     replace q1300 := eq_true q1300
     refine hK.out _ _ ⟨Z.b BK1283 0, Z.b BK1283 1, Z.b BK1283 2⟩ (fun hHeld => ?_)
     clear hK K
     refine Z.nm ?_
     refine Z.pv 7 36 10 255 HT_.out ?_
     refine one_ (i := 8) (N := some 37) (Z.mb 10 511) rfl rfl (one_of HT_.out (by kernel_rfl)) (by decide) (fun K hK => ?_)
     refine value_ (v := .int .i64 (rd t1296 t1299)) rfl rfl (by go_simp; with_reducible rfl) ?_
     refine hK.out _ _ hHeld (fun hHeld => ?_)
     clear hK K
     refine Z.nm ?_
     refine Z.pv 9 38 10 1023 HT_.out ?_
     refine done_ (done_of HT_.out (by kernel_rfl)) ?_
     try go_wp2
     go_roundg k2
     case measure => have := HJ3.out; have := HK2.out; omega
     case rel => exact ⟨(x7_2), (wrap64 (x8_2 + 1)), (by rfl), H', ⟨by have := HJ3.out; have := HK2.out; omega⟩, ⟨by (with_reducible repeat (apply Kd.R_drewN)); exact Kd.R_mono HO_7.out (fun _ hk => trivial)⟩, ⟨by (with_reducible repeat (refine blk_drewN ?_ _)); exact BK1283.out⟩, ⟨Z.bs HB.out GE1283.out⟩⟩
    obtain ⟨c29, H⟩ := Z.ifp H
    have LMc29 := Z.k c29
    clear c29
    obtain ⟨y1301, hy1301⟩ : ∃ y_ : List Int, y_ = (x7_2 ++ [x8_2]) := ⟨_, rfl⟩
    replace H : (spec_AmendersOf.l0 k2 l1 l2 y1301 (wrap64 (x8_2 + 1)) a0_0 l0_1 l0_2) = some r := by (rw [hy1301]; with_reducible exact H)
    have Ny1301 := Z.k hy1301
    clear hy1301
    have H' := Z.k H
    clear H
    have hcz30 := Z.c3 BK1283.out
    try go_wp2
    replace HO_7 := Z.k (Kd.R_drew HO_7.out)
    replace BK1283 := Z.k (blk_drew BK1283.out)
    replace HB := Z.k (below_drew1 HB.out)
    refine start_ (n := 10) (S := fun w' => w'.cell? ⟨gb1283, 0, none⟩ = some (.int .i64 a0_0) ∧ w'.cell? ⟨gb1283, 1, none⟩ = some (.slice A0_1 l0_1.length c0_1) ∧ w'.cell? ⟨gb1283, 2, none⟩ = some (.slice A0_2 l0_2.length c0_2)) (ds := []) (Z.mb 10 0) (by kernel_rfl) rfl rfl ⟨Z.b BK1283 0, Z.b BK1283 1, Z.b BK1283 2⟩ (fun hHeld => ?_); refine with_tabW spec_AmendersOf.tab7 spec_AmendersOf.bits7 (fun HT_ HW_ => ?_)
    generalize wr.drew = w31 at HO_7 BK1283 HB hHeld ⊢
    refine Z.pv 1 30 10 2 HT_.out ?_
    refine Z.pv 3 32 10 10 HT_.out ?_
    refine Z.pv 5 34 10 42 HT_.out ?_
    refine Z.t3 0 29 10 43 HT_.out HW_.out hHeld ?_
    refine one_ (i := 2) (N := some 31) (Z.mb 10 47) rfl rfl (one_of HT_.out (by kernel_rfl)) (by decide) (fun K hK => ?_)
    refine goes_ Try.func80 (by kernel_rfl) rfl #[.slice A1 l1.length c1] (by rfl) rfl rfl Z.ar ?_
    with_reducible refine (spec_l8Code.calls k2 _ _ l1 t1295 _ ?q1 ?q2 A23.out).mono ?_
    (case q1 => exact Z.cc HR1 HB)
    (case q2 => exact HC1.out)
    rintro e w' ⟨rfl, ⟨nd, rfl⟩⟩
    refine ⟨_, rfl, ?_⟩
    refine hK.out _ _ ⟨Z.b BK1283 0, Z.b BK1283 1, Z.b BK1283 2⟩ (fun hHeld => ?_)
    clear hK K
    refine Z.nm ?_
    refine one_ (i := 4) (N := some 33) (Z.mb 10 63) rfl rfl (one_of HT_.out (by kernel_rfl)) (by decide) (fun K hK => ?_)
    refine goes_ Try.func79 (by kernel_rfl) rfl #[.agg #[.int .i64 a0_0, .slice A0_1 l0_1.length c0_1, .slice A0_2 l0_2.length c0_2], .int .i64 t1295, .int .i64 x8_2] (by rfl) rfl rfl Z.ar ?_
    with_reducible refine (spec_l8Reach.calls k2 a0_0 _ _ l0_1 _ _ l0_2 t1295 x8_2 t1296 _ ?q1 ?q2 ?q3 ?q4 A24.out).mono ?_
    (case q1 => repeat (exact (Kd.C_below HR0_1.out (Z.bs HB.out GE1283.out))))
    (case q2 => exact HC0_1.out)
    (case q3 => repeat (exact (Kd.C_below HR0_2.out (Z.bs HB.out GE1283.out))))
    (case q4 => exact HC0_2.out)
    rintro e w32 ⟨v1297, rfl, ho0, hb⟩
    refine ⟨_, rfl, ?_⟩
    have HO1298 := Z.k (Kd.R_lower (Kd.R_new' ho0 (Kd.R_lt (by (with_reducible repeat (apply Kd.R_drewN)); exact HO_7.out))) (below_size (Z.bs HB.out GE1283.out)))
    replace HO_7 := Z.k (Kd.R_elder' (by (with_reducible repeat (apply Kd.R_drewN)); exact HO_7.out) (Kd.R_base ho0) hb)
    replace BK1283 := Z.bb BK1283 hb
    replace HB := Z.st (Z.bs HB.out GE1283.out) hb
    (try clear hb)
    (try clear ho0)
    refine hK.out _ _ ⟨Z.b BK1283 0, Z.b BK1283 1, Z.b BK1283 2⟩ (fun hHeld => ?_)
    clear hK K
    refine Z.nm ?_
    refine one_ (i := 6) (N := some 35) (Z.mb 10 127) rfl rfl (one_of HT_.out (by kernel_rfl)) (by decide) (fun K hK => ?_)
    refine goes_ Try.func80 (by kernel_rfl) rfl #[.slice A2 l2.length c2] (by rfl) rfl rfl Z.ar ?_
    with_reducible refine (spec_l8Code.calls k2 _ _ l2 t1299 _ ?q1 ?q2 A25.out).mono ?_
    (case q1 => exact Z.cc HR2 HB)
    (case q2 => exact HC2.out)
    rintro e w' ⟨rfl, ⟨nd, rfl⟩⟩
    refine ⟨_, rfl, ?_⟩
    obtain ⟨Ao33, co33, eo33⟩ := Kd.R_slice HO1298.out
    (subst eo33)
    have p1300 : 0 ≤ (t1299 : Int) := Z.od
    have q1300 : t1299 < (t1296.length : Int) := Z.od
    obtain ⟨ad1300, e1300, hx1300_0⟩ := Kd.at_int (Kd.R_reads' HO1298.out).2.2 t1299 p1300 q1300
    cases e1300
    replace p1300 := eq_true p1300
    replace q1300 := eq_true q1300
    refine hK.out _ _ ⟨Z.b BK1283 0, Z.b BK1283 1, Z.b BK1283 2⟩ (fun hHeld => ?_)
    clear hK K
    refine Z.nm ?_
    refine Z.pv 7 36 10 255 HT_.out ?_
    refine one_ (i := 8) (N := some 37) (Z.mb 10 511) rfl rfl (one_of HT_.out (by kernel_rfl)) (by decide) (fun K hK => ?_)
    refine value_ (v := .int .i64 (rd t1296 t1299)) rfl rfl (by go_simp; with_reducible rfl) ?_
    refine hK.out _ _ hHeld (fun hHeld => ?_)
    clear hK K
    refine Z.nm ?_
    refine Z.pv 9 38 10 1023 HT_.out ?_
    refine done_ (done_of HT_.out (by kernel_rfl)) ?_
    try go_wp2_with (((with_reducible refine gate_builtin (b := .append) (xs := #[.tmp 39, .tmp 41]) rfl ?_); at_builtin; refine Kd.R_append (Kd.int .i64) (w0 := w) w.heap.size rfl (.tmp 39) (.tmp 41) 23 3 (.int .i64 0) 8 rfl Try.underlying23 info3 rfl (by decide) (by omega) u7 x7_2 x8_2 [.int .i64 x8_2] (fun k_ => some k_ ≠ (.slice (some ad1300) t1296.length co33 : Value).ownBlock) (fun _ => False) rfl rfl ?aP (fun _ hk => hk.elim) ?aF ?aO ?aB ?aS ?aL ?_; (case aP => exact rfl); (case aB => exact (Z.bs HB.out GE1283.out)); (case aF => exact (fun k_ hk => Kd.fresh' (Kd.R_lt (by (with_reducible repeat (apply Kd.R_drewN)); exact HO1298.out)) k_ hk)); (case aO => exact (by (with_reducible repeat (apply Kd.R_drewN)); exact Kd.R_mono HO_7.out (fun _ hk => hk.2))); (case aS => exact (below_size (Z.bs HB.out GE1283.out))); (case aL => have := LMc29.out; omega); intro v1302 w34 ho hb hg hat; rw [← Ny1301.out] at ho; replace BK1283 := Z.k (blk_grown (g := gb1283) (o := .cells #[.int .i64 a0_0, .slice A0_1 l0_1.length c0_1, .slice A0_2 l0_2.length c0_2] 28 (0, 0)) (Z.bk BK1283.out) hg (Kd.R_ne HO_7.out BK1283.out (by decide))); replace HO1298 := Z.k (Kd.R_after (ok := (fun _ => True)) (by (with_reducible repeat (apply Kd.R_drewN)); exact HO1298.out) hg hat); replace HB := Z.k (hb); have HO1303 := Z.k (ho); clear HO_7; clear ho hb hg hat))
    go_roundg k2
    case measure => have := HJ3.out; have := HK2.out; omega
    case rel => exact ⟨(y1301), (wrap64 (x8_2 + 1)), (by rfl), H', ⟨by have := HJ3.out; have := HK2.out; omega⟩, ⟨by (with_reducible skip); exact Kd.R_mono HO1303.out (fun _ hk => trivial)⟩, ⟨by (with_reducible skip); exact BK1283.out⟩, ⟨Z.bs HB.out GE1283.out⟩⟩
-- NOT PRINTED: function 148 (slices_Compact_int_int)

-- NOT PRINTED: function 123 (impl_leastCrowds)

-- NOT PRINTED: function 97 (impl_leastOf)

-- NOT PRINTED: function 48 (impl_AmendersOf)

-- NOT PRINTED: function 14 (laws_FnExactAmendersOf)

end Go.Proofs.Ytkogboechfieeaa.PAll

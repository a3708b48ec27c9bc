/- Walks of functions that laws of this seat reach, in the form of the print. -/
import Derived.Test.YtkogboechfieeaaCAll22
-- PRINTED
namespace Go.Proofs.Ytkogboechfieeaa.PAll
open Go.RowKit Go.Proofs.YtkogboechfieeaaW.PrintWords Go.Proofs.YtkogboechfieeaaW.PrintLast Go.Proofs.YtkogboechfieeaaW.PrintMore
attribute [local go_sem] max2_int min2_int max_two min_two max_three min_three max_four min_four
set_option linter.unusedVariables false
set_option linter.unusedSimpArgs false

/-! ### spec_AfterActs: function 33 -/
mutual
def spec_AfterActs.j0 : Nat → List Int → List (S59) → Bool → Int → List Int → List (List (S37)) → Option (List Int × Int)
 | 0, _, _, _, _, _, _ => none
 | k + 1, x1, x2, x19, x925000, x925001, x925002 => if x19 = true then (some ((([] : List Int)), (-1))) else ((some (([] : List Int) : List Int)).bind fun y929 => (if y929.length + x1.length < 17592186044416 then (spec_AfterActs.l0 k x2 (y929 ++ x1) 0 0 x925000 x925001 x925002) else (none)))
def spec_AfterActs.l0 : Nat → List (S59) → List Int → Int → Int → Int → List Int → List (List (S37)) → Option (List Int × Int)
 | 0, _, _, _, _, _, _, _ => none
 | k + 1, x2, x8, x9, x10, x925000, x925001, x925002 => if x10 < (x2.length : Int) then (if 0 ≤ x10 then ((spec_MayChange.f k x925000 x925001 x925002 x8 ((rd_T59 x2 x10).f0) ((rd_T59 x2 x10).f1) ((rd_T59 x2 x10).f2)).bind fun t938 => (if t938 = true then (if 0 ≤ ((rd_T59 x2 x10).f0) then (if ((rd_T59 x2 x10).f0) < (x8.length : Int) then (spec_AfterActs.l0 k x2 (x8.set (((rd_T59 x2 x10).f0) : Int).toNat ((rd_T59 x2 x10).f1)) (wrap64 (x9 + 1)) (wrap64 (x10 + 1)) x925000 x925001 x925002) else (none)) else (none)) else (spec_AfterActs.l0 k x2 x8 x9 (wrap64 (x10 + 1)) x925000 x925001 x925002))) else (none)) else (some (x8, x9))
end
def spec_AfterActs.f (k : Nat) (a0_0 : Int) (l0_1 : List Int) (l0_2 : List (List (S37))) (l1 : List Int) (l2 : List (S59)) : Option (List Int × Int) := (spec_StateOk.f k a0_0 l0_1 l0_2 l1).bind fun t925 => (if t925 = true then (spec_AfterActs.j0 k l1 l2 (decide ((l2.length : Int) > 12)) a0_0 l0_1 l0_2) else (spec_AfterActs.j0 k l1 l2 true a0_0 l0_1 l0_2))
def spec_AfterActs.T8 : Bool × List (List Nat × List Nat) := (true, [([], []), ([], []), ([], []), ([], []), ([2, 3], [2, 3]), ([4], [4]), ([5], [5]), ([], []), ([], []), ([7, 8], [7, 8]), ([9], [9]), ([10], [10]), ([], []), ([], []), ([12, 13], [12, 13]), ([14], [14]), ([15], [15]), ([0, 1, 6, 11, 16], [0, 1, 6, 11, 16])])
def spec_AfterActs.B8 : List Nat := [0, 0, 0, 0, 12, 28, 60, 0, 0, 384, 896, 1920, 0, 0, 12288, 28672, 61440, 131071]
theorem spec_AfterActs.tab8 : rtab .any (opsOf Try.f33 8) = spec_AfterActs.T8 := by kernel_rfl
theorem spec_AfterActs.bits8 : waitsOk spec_AfterActs.T8.2 spec_AfterActs.B8 = true := by kernel_rfl
def spec_AfterActs.T9 : Bool × List (List Nat × List Nat) := (true, [([], []), ([], []), ([], []), ([1, 2], [1, 2]), ([3], [3]), ([4], [4]), ([], []), ([], []), ([6, 7], [6, 7]), ([8], [8]), ([9], [9]), ([0, 5, 0, 1, 2, 3, 4, 5, 6, 7, 8, 9, 10], [0, 5]), ([11, 10, 0, 1, 2, 3, 4, 5, 6, 7, 8, 9, 10], [10, 11])])
def spec_AfterActs.B9 : List Nat := [0, 0, 0, 6, 14, 30, 0, 0, 192, 448, 960, 2047, 4095]
theorem spec_AfterActs.tab9 : rtab .any (opsOf Try.f33 9) = spec_AfterActs.T9 := by kernel_rfl
theorem spec_AfterActs.bits9 : waitsOk spec_AfterActs.T9.2 spec_AfterActs.B9 = true := by kernel_rfl
set_option maxHeartbeats 8000000 in
set_option maxRecDepth 100000 in
theorem spec_AfterActs.calls (k : Nat) (a0_0 : Int) (A0_1 : Option Addr) (c0_1 : Nat) (l0_1 : List Int) (A0_2 : Option Addr) (c0_2 : Nat) (l0_2 : List (List (S37))) (A1 : Option Addr) (c1 : Nat) (l1 : List Int) (A2 : Option Addr) (c2 : Nat) (l2 : List (S59)) (r1 : List Int) (r2 : Int) (w : World) (hr0_1 : Kd.C (Kd.int .i64) w A0_1 l0_1.length l0_1) (hc0_1 : l0_1.length ≤ c0_1) (hr0_2 : Kd.C (Kd.slice 37 k37) w A0_2 l0_2.length l0_2) (hc0_2 : l0_2.length ≤ c0_2) (hr1 : Kd.C (Kd.int .i64) w A1 l1.length l1) (hc1 : l1.length ≤ c1) (hr2 : Kd.C k59 w A2 l2.length l2) (hc2 : l2.length ≤ c2) (h : spec_AfterActs.f k a0_0 l0_1 l0_2 l1 l2 = some (r1, r2)) :
  Calls Try.prog 33 #[.agg #[.int .i64 a0_0, .slice A0_1 l0_1.length c0_1, .slice A0_2 l0_2.length c0_2], .slice A1 l1.length c1, .slice A2 l2.length c2] w fun e w' => ∃ v0_ : Value, e = .returned (.tuple #[v0_, .int .i64 r2]) ∧ Kd.R (Kd.int .i64) 3 w' w.heap.size (fun _ => True) v0_ r1 ∧ Below w.heap.size w w' := by
 have hu46 := Try.underlying28
 have HR0_1 := Z.k hr0_1
 have HC0_1 := Z.k hc0_1
 clear hr0_1 hc0_1
 have HR0_2 := Z.k hr0_2
 have HC0_2 := Z.k hc0_2
 clear hr0_2 hc0_2
 have HR1 := Z.k hr1
 have HC1 := Z.k hc1
 clear hr1 hc1
 have HR2 := Z.k hr2
 have HC2 := Z.k hc2
 clear hr2 hc2
 have HB := Z.k (Below.refl w.heap.size w)
 have H := h
 clear h
 unfold spec_AfterActs.f at H
 have HC4 := Z.k H
 clear H
 go_enter Try.func33, Try.ntmps33
 go_upto_region 1 with (((with_reducible refine gate_dst (N := 3) rfl ?_); (try (refine gate_guard (by rfl) ?_; dsimp only)); refine Z.bx #[.int .i64 a0_0, .slice A0_1 l0_1.length c0_1, .slice A0_2 l0_2.length c0_2] 28 HB ?_; clear HB; intro gb924 w5 BK924 GE924 HB hg hb; have GW924 := GE924; clear hb hg))
 go_cut [19] (fun v19 wc => ∃ (kq : Nat) (x19_3 : Bool), v19 = .bool x19_3 ∧ Aside0 (spec_AfterActs.j0 kq l1 l2 x19_3 a0_0 l0_1 l0_2 = some (r1, r2)) ∧ Aside0 (kq ≤ k) ∧ Aside0 (wc.heap[gb924]? = some (.cells #[.int .i64 a0_0, (.slice A0_1 l0_1.length c0_1), (.slice A0_2 l0_2.length c0_2)] 28 (0, 0))) ∧ Aside0 (Below w.heap.size w wc))
 case first =>
  have H := HC4.out
  clear HC4
  revert H; refine Z.bd ?_; rintro t925 A6 H
  by_cases c7 : t925 = true
  ·subst c7
   rw [if_pos rfl] at H
   have H' := Z.k H
   clear H
   have hcz8 := Z.c3 BK924.out
   go_wp2_with (((with_reducible refine gate_callee (f := 16) rfl ?_); refine goesL_ (some 13) rfl rfl Try.func16 (by kernel_rfl) rfl #[.agg #[.int .i64 a0_0, .slice A0_1 l0_1.length c0_1, .slice A0_2 l0_2.length c0_2], .slice A1 l1.length c1] rfl Z.ar ?_; (with_reducible refine (spec_StateOk.calls k a0_0 _ _ l0_1 _ _ l0_2 _ _ l1 true _ ?q1 ?q2 ?q3 ?q4 ?q5 ?q6 A6.out).mono ?_); (case q1 => exact Z.cc HR0_1 HB); (case q2 => exact HC0_1.out); (case q3 => exact Z.cc HR0_2 HB); (case q4 => exact HC0_2.out); (case q5 => exact Z.cc HR1 HB); (case q6 => exact HC1.out); rintro e w9 ⟨rfl, hb⟩; refine ⟨_, rfl, ?_⟩; replace BK924 := Z.bb BK924 hb; replace HB := Z.st (Z.bs HB.out GE924.out) hb; (try clear hb)))
   go_meet
   case rel => exact ⟨_, (decide ((l2.length : Int) > 12)), (by rfl), H', ⟨by omega⟩, ⟨by exact BK924.out⟩, ⟨Z.bs HB.out GE924.out⟩⟩
  replace c7 := Bool.eq_false_iff.mpr c7
  subst c7
  rw [if_neg (show ¬ (false = true) by decide)] at H
  have H' := Z.k H
  clear H
  have hcz10 := Z.c3 BK924.out
  go_wp2_with (((with_reducible refine gate_callee (f := 16) rfl ?_); refine goesL_ (some 13) rfl rfl Try.func16 (by kernel_rfl) rfl #[.agg #[.int .i64 a0_0, .slice A0_1 l0_1.length c0_1, .slice A0_2 l0_2.length c0_2], .slice A1 l1.length c1] rfl Z.ar ?_; (with_reducible refine (spec_StateOk.calls k a0_0 _ _ l0_1 _ _ l0_2 _ _ l1 false _ ?q1 ?q2 ?q3 ?q4 ?q5 ?q6 A6.out).mono ?_); (case q1 => exact Z.cc HR0_1 HB); (case q2 => exact HC0_1.out); (case q3 => exact Z.cc HR0_2 HB); (case q4 => exact HC0_2.out); (case q5 => exact Z.cc HR1 HB); (case q6 => exact HC1.out); rintro e w11 ⟨rfl, hb⟩; refine ⟨_, rfl, ?_⟩; replace BK924 := Z.bb BK924 hb; replace HB := Z.st (Z.bs HB.out GE924.out) hb; (try clear hb)))
  go_meet
  case rel => exact ⟨_, (true), (by rfl), H', ⟨by omega⟩, ⟨by exact BK924.out⟩, ⟨Z.bs HB.out GE924.out⟩⟩
 case rest =>
  clear HC4
  obtain ⟨kq, x19_3, rfl, HA, HJ3, BK924, HB⟩ := hcut
  cases kq with
  | zero => exact absurd HA.out (by simp [spec_AfterActs.j0])
  | succ kj3 =>
   have H := HA.out
   clear HA
   simp only [spec_AfterActs.j0] at H
   by_cases c12 : x19_3 = true
   ·subst c12
    rw [if_pos rfl] at H
    obtain ⟨y926, hy926⟩ : ∃ y_ : List Int, y_ = (([] : List Int)) := ⟨_, rfl⟩
    replace H : (some (y926, (-1))) = some (r1, r2) := by (rw [hy926]; with_reducible exact H)
    have Ny926 := Z.k hy926
    clear hy926
    simp only [Option.some.injEq, Prod.mk.injEq] at H
    obtain ⟨rfl, rfl⟩ := H
    go_wp2_with (((with_reducible refine gate_dst (N := 20) rfl ?_); (try (refine gate_guard (by rfl) ?_; dsimp only)); refine Kd.R_lit (Kd.int .i64) _ 3 ?hg (N := 20) ?hd (xs := ([] : List Int)) (inner := []) (ok := fun _ => True) (okp := fun _ => True) ?hr ?hp (fun _ hk => hk) trivial (Below.refl _ _) (Nat.le_refl _) (by simp) ?_; (case hd | hg => rfl); (case hr => (go_simp; done)); (case hp => exact (Reps.none _ _)); intro v927 w13 ho14 hb hg_ hnew_; clear hg_ hnew_; (rw [← Ny926.out] at ho14); have HO928 := Z.k (Kd.R_lower ho14 (below_size (Z.bs HB.out GE924.out))); replace BK924 := Z.bb BK924 hb; replace HB := Z.st (Z.bs HB.out GE924.out) hb; clear hb ho14))
    go_ret2
    exact ⟨_, by rfl, by exact HO928.out, Z.bs HB.out GE924.out⟩
   replace c12 := Bool.eq_false_iff.mpr c12
   subst c12
   rw [if_neg (show ¬ (false = true) by decide)] at H
   obtain ⟨y929, hy929⟩ : ∃ y_ : List Int, y_ = (([] : List Int)) := ⟨_, rfl⟩
   replace H : (if y929.length + l1.length < 17592186044416 then (spec_AfterActs.l0 kj3 l2 (y929 ++ l1) 0 0 a0_0 l0_1 l0_2) else (none)) = some (r1, r2) := by (have H2_ := (Option.bind_some _ _).symm.trans H; rw [hy929]; with_reducible exact H2_)
   have Ny929 := Z.k hy929
   clear hy929
   obtain ⟨c15, H⟩ := Z.ifp H
   have LMc15 := Z.k c15
   clear c15
   obtain ⟨y932, hy932⟩ : ∃ y_ : List Int, y_ = (y929 ++ l1) := ⟨_, rfl⟩
   replace H : (spec_AfterActs.l0 kj3 l2 y932 0 0 a0_0 l0_1 l0_2) = some (r1, r2) := by (rw [hy932]; with_reducible exact H)
   have Ny932 := Z.k hy932
   clear hy932
   have H' := Z.k H
   clear H
   go_wp2_with (first | ((with_reducible refine gate_dst (N := 21) rfl ?_); (try (refine gate_guard (by rfl) ?_; dsimp only)); refine Kd.R_lit (Kd.int .i64) _ 3 ?hg (N := 21) ?hd (xs := ([] : List Int)) (inner := []) (ok := fun _ => True) (okp := fun _ => True) ?hr ?hp (fun _ hk => hk) trivial (Below.refl _ _) (Nat.le_refl _) (by simp) ?_; (case hd | hg => rfl); (case hr => (go_simp; done)); (case hp => exact (Reps.none _ _)); intro v930 w16 ho17 hb hg_ hnew_; clear hg_ hnew_; (rw [← Ny929.out] at ho17); have HO931 := Z.k (Kd.R_lower ho17 (below_size (Z.bs HB.out GE924.out))); replace BK924 := Z.bb BK924 hb; replace HB := Z.st (Z.bs HB.out GE924.out) hb; clear hb ho17) | ((with_reducible refine gate_builtin (b := .append) (xs := #[.tmp 21, .tmp 22]) rfl ?_); (try (refine gate_guard (by rfl) ?_; dsimp only)); at_builtin; refine Kd.R_append_rows (Kd.int .i64) (w0 := w) w.heap.size rfl (.tmp 21) (.tmp 22) 23 3 (.int .i64 0) 8 rfl Try.underlying23 info3 rfl (by decide) (by omega) v930 y929 l1 _ _ _ (fun _ => True) (fun _ => False) rfl rfl ?aO ?aR (fun _ _ h => h) (fun _ h => h.elim) ?aF ?aB ?aS ?aL ?_; (case aR => exact Z.cc HR1 HB); (case aB => exact (Z.bs HB.out GE924.out)); (case aF => exact (fun _ _ => trivial)); (case aO => exact HO931.out); (case aS => exact (below_size (Z.bs HB.out GE924.out))); (case aL => have := LMc15.out; omega); intro v933 w18 ho hb hg hat; rw [← Ny932.out] at ho; replace BK924 := Z.k (blk_grown (g := gb924) (o := .cells #[.int .i64 a0_0, .slice A0_1 l0_1.length c0_1, .slice A0_2 l0_2.length c0_2] 28 (0, 0)) (Z.bk BK924.out) hg (Kd.R_ne HO931.out BK924.out (by decide))); replace HB := Z.k hb; have HO934 := Z.k ho; clear HO931; clear ho hb hg hat))
   go_loopg [9, 10] kj3 (fun kq v9 v10 w' => ∃ (x8_2 : List Int) (x9_2 : Int) (x10_2 : Int), v9 = .int .i64 x9_2 ∧ v10 = .int .i64 x10_2 ∧ Aside0 (spec_AfterActs.l0 kq l2 x8_2 x9_2 x10_2 a0_0 l0_1 l0_2 = some (r1, r2)) ∧ Aside0 (kq ≤ kj3) ∧ Aside0 (Kd.R (Kd.int .i64) 3 w' w.heap.size (fun _ => True) v933 x8_2) ∧ Aside0 (w'.heap[gb924]? = some (.cells #[.int .i64 a0_0, (.slice A0_1 l0_1.length c0_1), (.slice A0_2 l0_2.length c0_2)] 28 (0, 0))) ∧ Aside0 (Below w.heap.size w w'))
   case atStart => exact ⟨(y932), (0), (0), (by rfl), (by rfl), H', ⟨Nat.le_refl _⟩, ⟨by exact HO934.out⟩, ⟨by exact BK924.out⟩, ⟨Z.bs HB.out GE924.out⟩⟩
   clear H'
   obtain ⟨x8_2, x9_2, x10_2, rfl, rfl, HA, HK2, HO_8, BK924, HB⟩ := hrel
   cases gk with
   | zero => exact absurd HA.out (by simp [spec_AfterActs.l0])
   | succ k2 =>
    have H := HA.out
    clear HA
    simp only [spec_AfterActs.l0] at H
    revert H; refine Z.fm ?_ ?_ <;> intro c19b0 H
    ·simp only [Option.some.injEq, Prod.mk.injEq] at H
     obtain ⟨rfl, rfl⟩ := H
     go_wp2
     go_ret2
     exact ⟨_, by rfl, by exact HO_8.out, Z.bs HB.out GE924.out⟩

    obtain ⟨c20b0, H⟩ := Z.fd H
    revert H; refine Z.bd ?_; rintro t938 A21 H
    by_cases c22 : t938 = true
    rotate_left
    ·replace c22 := Bool.eq_false_iff.mpr c22
     subst c22
     rw [if_neg (show ¬ (false = true) by decide)] at H
     have H' := Z.k H
     clear H
     try go_wp2
     replace HO_8 := Z.k (Kd.R_drew HO_8.out)
     replace BK924 := Z.k (blk_drew BK924.out)
     replace HB := Z.k (below_drew1 HB.out)
     have p935 : 0 ≤ (x10_2 : Int) := Z.od
     have q935 : x10_2 < (l2.length : Int) := Z.od
     obtain ⟨ad935, rfl, hx935_0, hx935_1, hx935_2⟩ := at_T59 HR2.out x10_2 p935 q935
     have hw935_2 := hx935_2
     have hw935_1 := hx935_1
     have hw935_0 := hx935_0
     replace hx935_0 := Z.up HB.out hx935_0
     replace hx935_1 := Z.up HB.out hx935_1
     replace hx935_2 := Z.up HB.out hx935_2
     replace p935 := eq_true p935
     replace q935 := eq_true q935
     have p936 : 0 ≤ (x10_2 : Int) := Z.od
     have q936 : x10_2 < (l2.length : Int) := Z.od
     obtain ⟨ad936, e936, hx936_0, hx936_1, hx936_2⟩ := at_T59 HR2.out x10_2 p936 q936
     have hw936_2 := hx936_2
     have hw936_1 := hx936_1
     have hw936_0 := hx936_0
     obtain rfl : ad935 = ad936 := (by injection e936)
     replace hx936_0 := Z.up HB.out hx936_0
     replace hx936_1 := Z.up HB.out hx936_1
     replace hx936_2 := Z.up HB.out hx936_2
     replace p936 := eq_true p936
     replace q936 := eq_true q936
     have p937 : 0 ≤ (x10_2 : Int) := Z.od
     have q937 : x10_2 < (l2.length : Int) := Z.od
     obtain ⟨ad937, e937, hx937_0, hx937_1, hx937_2⟩ := at_T59 HR2.out x10_2 p937 q937
     have hw937_2 := hx937_2
     have hw937_1 := hx937_1
     have hw937_0 := hx937_0
     obtain rfl : ad935 = ad937 := (by injection e937)
     replace hx937_0 := Z.up HB.out hx937_0
     replace hx937_1 := Z.up HB.out hx937_1
     replace hx937_2 := Z.up HB.out hx937_2
     replace p937 := eq_true p937
     replace q937 := eq_true q937
     obtain ⟨Ao32, co32, eo32⟩ := Kd.R_slice HO_8.out
     (subst eo32)
     refine start_ (n := 18) (S := fun w' => w'.cell? ⟨gb924, 0, none⟩ = some (.int .i64 a0_0) ∧ w'.cell? ⟨gb924, 1, none⟩ = some (.slice A0_1 l0_1.length c0_1) ∧ w'.cell? ⟨gb924, 2, none⟩ = some (.slice A0_2 l0_2.length c0_2) ∧ w'.cell? (ad935.add ((x10_2).toNat * 3)) = some (.int .i64 ((rd_T59 l2 x10_2).f0)) ∧ w'.cell? ⟨(ad935.add ((x10_2).toNat * 3)).block, (ad935.add ((x10_2).toNat * 3)).off + 1, none⟩ = some (.int .i64 ((rd_T59 l2 x10_2).f1)) ∧ w'.cell? ⟨(ad935.add ((x10_2).toNat * 3)).block, (ad935.add ((x10_2).toNat * 3)).off + 2, none⟩ = some (.int .i64 ((rd_T59 l2 x10_2).f2)) ∧ w'.cell? (ad935.add ((x10_2).toNat * 3)) = some (.int .i64 ((rd_T59 l2 x10_2).f0)) ∧ w'.cell? ⟨(ad935.add ((x10_2).toNat * 3)).block, (ad935.add ((x10_2).toNat * 3)).off + 1, none⟩ = some (.int .i64 ((rd_T59 l2 x10_2).f1)) ∧ w'.cell? ⟨(ad935.add ((x10_2).toNat * 3)).block, (ad935.add ((x10_2).toNat * 3)).off + 2, none⟩ = some (.int .i64 ((rd_T59 l2 x10_2).f2)) ∧ w'.cell? (ad935.add ((x10_2).toNat * 3)) = some (.int .i64 ((rd_T59 l2 x10_2).f0)) ∧ w'.cell? ⟨(ad935.add ((x10_2).toNat * 3)).block, (ad935.add ((x10_2).toNat * 3)).off + 1, none⟩ = some (.int .i64 ((rd_T59 l2 x10_2).f1)) ∧ w'.cell? ⟨(ad935.add ((x10_2).toNat * 3)).block, (ad935.add ((x10_2).toNat * 3)).off + 2, none⟩ = some (.int .i64 ((rd_T59 l2 x10_2).f2))) (ds := []) (Z.mb 18 0) (by kernel_rfl) rfl rfl ⟨Z.b BK924 0, Z.b BK924 1, Z.b BK924 2, (Z.up HB.out hw935_0 :), (Z.up HB.out hw935_1 :), (Z.up HB.out hw935_2 :), (Z.up HB.out hw936_0 :), (Z.up HB.out hw936_1 :), (Z.up HB.out hw936_2 :), (Z.up HB.out hw937_0 :), (Z.up HB.out hw937_1 :), (Z.up HB.out hw937_2 :)⟩ (fun hHeld => ?_); refine with_tabW spec_AfterActs.tab8 spec_AfterActs.bits8 (fun HT_ HW_ => ?_)
     generalize wr.drew = w31 at HO_8 BK924 HB hx935_0 hx935_1 hx935_2 hx936_0 hx936_1 hx936_2 hx937_0 hx937_1 hx937_2 hHeld ⊢
     refine Z.pv 1 31 18 2 HT_.out ?_
     refine Z.pv 2 32 18 6 HT_.out ?_
     refine Z.pv 3 33 18 14 HT_.out ?_
     refine Z.pv 4 34 18 30 HT_.out ?_
     refine Z.pv 5 35 18 62 HT_.out ?_
     refine Z.pv 7 37 18 190 HT_.out ?_
     refine Z.pv 8 38 18 446 HT_.out ?_
     refine Z.pv 9 39 18 958 HT_.out ?_
     refine Z.pv 10 40 18 1982 HT_.out ?_
     refine Z.pv 12 42 18 6078 HT_.out ?_
     refine Z.pv 13 43 18 14270 HT_.out ?_
     refine Z.pv 14 44 18 30654 HT_.out ?_
     refine Z.pv 15 45 18 63422 HT_.out ?_
     refine Z.t12 0 30 18 63423 HT_.out HW_.out hHeld ?_
     refine Z.t12 6 36 18 63487 HT_.out HW_.out hHeld ?_
     refine Z.t12 11 41 18 65535 HT_.out HW_.out hHeld ?_
     refine Z.t12 16 46 18 131071 HT_.out HW_.out hHeld ?_
     refine one_ (i := 17) (N := some 47) (Z.mb 18 262143) rfl rfl (one_of HT_.out (by kernel_rfl)) (by decide) (fun K hK => ?_)
     refine goes_ Try.func27 (by kernel_rfl) rfl #[.agg #[.int .i64 a0_0, .slice A0_1 l0_1.length c0_1, .slice A0_2 l0_2.length c0_2], .slice Ao32 x8_2.length co32, .int .i64 ((rd_T59 l2 x10_2).f0), .int .i64 ((rd_T59 l2 x10_2).f1), .int .i64 ((rd_T59 l2 x10_2).f2)] (by rfl) rfl rfl Z.ar ?_
     with_reducible refine (spec_MayChange.calls k2 a0_0 _ _ l0_1 _ _ l0_2 _ _ x8_2 ((rd_T59 l2 x10_2).f0) ((rd_T59 l2 x10_2).f1) ((rd_T59 l2 x10_2).f2) false _ ?q1 ?q2 ?q3 ?q4 ?q5 ?q6 A21.out).mono ?_
     (case q1 => exact Z.cc HR0_1 HB)
     (case q2 => exact HC0_1.out)
     (case q3 => exact Z.cc HR0_2 HB)
     (case q4 => exact HC0_2.out)
     (case q5 => exact (Kd.R_reads' HO_8.out).2.2)
     (case q6 => exact (Kd.R_reads' HO_8.out).2.1)
     rintro e w33 ⟨rfl, hb⟩
     refine ⟨_, rfl, ?_⟩
     replace HO_8 := Z.rb HO_8 hb
     replace BK924 := Z.bb BK924 hb
     replace HB := Z.st (Z.bs HB.out GE924.out) hb
     (try clear hb)
     refine hK.out _ _ ⟨Z.b BK924 0, Z.b BK924 1, Z.b BK924 2, (Z.up HB.out hw935_0 :), (Z.up HB.out hw935_1 :), (Z.up HB.out hw935_2 :), (Z.up HB.out hw936_0 :), (Z.up HB.out hw936_1 :), (Z.up HB.out hw936_2 :), (Z.up HB.out hw937_0 :), (Z.up HB.out hw937_1 :), (Z.up HB.out hw937_2 :)⟩ (fun hHeld => ?_)
     clear hK K
     refine Z.nm ?_
     refine done_ (done_of HT_.out (by kernel_rfl)) ?_
     try go_wp2
     go_roundg k2
     case measure => have := HJ3.out; have := HK2.out; omega
     case rel => exact ⟨(x8_2), (x9_2), (wrap64 (x10_2 + 1)), (by rfl), (by rfl), H', ⟨by have := HJ3.out; have := HK2.out; omega⟩, ⟨by exact HO_8.out⟩, ⟨by exact BK924.out⟩, ⟨Z.bs HB.out GE924.out⟩⟩
    subst c22
    rw [if_pos rfl] at H
    obtain ⟨c23b0, H⟩ := Z.fd H
    obtain ⟨c24b0, H⟩ := Z.fd H
    obtain ⟨y941, hy941⟩ : ∃ y_ : List Int, y_ = (x8_2.set (((rd_T59 l2 x10_2).f0) : Int).toNat ((rd_T59 l2 x10_2).f1)) := ⟨_, rfl⟩
    replace H : (spec_AfterActs.l0 k2 l2 y941 (wrap64 (x9_2 + 1)) (wrap64 (x10_2 + 1)) a0_0 l0_1 l0_2) = some (r1, r2) := by (rw [hy941]; with_reducible exact H)
    have Ny941 := Z.k hy941
    clear hy941
    have H' := Z.k H
    clear H
    try go_wp2
    replace HO_8 := Z.k (Kd.R_drew HO_8.out)
    replace BK924 := Z.k (blk_drew BK924.out)
    replace HB := Z.k (below_drew1 HB.out)
    have p935 : 0 ≤ (x10_2 : Int) := Z.od
    have q935 : x10_2 < (l2.length : Int) := Z.od
    obtain ⟨ad935, rfl, hx935_0, hx935_1, hx935_2⟩ := at_T59 HR2.out x10_2 p935 q935
    have hw935_2 := hx935_2
    have hw935_1 := hx935_1
    have hw935_0 := hx935_0
    replace hx935_0 := Z.up HB.out hx935_0
    replace hx935_1 := Z.up HB.out hx935_1
    replace hx935_2 := Z.up HB.out hx935_2
    replace p935 := eq_true p935
    replace q935 := eq_true q935
    have p936 : 0 ≤ (x10_2 : Int) := Z.od
    have q936 : x10_2 < (l2.length : Int) := Z.od
    obtain ⟨ad936, e936, hx936_0, hx936_1, hx936_2⟩ := at_T59 HR2.out x10_2 p936 q936
    have hw936_2 := hx936_2
    have hw936_1 := hx936_1
    have hw936_0 := hx936_0
    obtain rfl : ad935 = ad936 := (by injection e936)
    replace hx936_0 := Z.up HB.out hx936_0
    replace hx936_1 := Z.up HB.out hx936_1
    replace hx936_2 := Z.up HB.out hx936_2
    replace p936 := eq_true p936
    replace q936 := eq_true q936
    have p937 : 0 ≤ (x10_2 : Int) := Z.od
    have q937 : x10_2 < (l2.length : Int) := Z.od
    obtain ⟨ad937, e937, hx937_0, hx937_1, hx937_2⟩ := at_T59 HR2.out x10_2 p937 q937
    have hw937_2 := hx937_2
    have hw937_1 := hx937_1
    have hw937_0 := hx937_0
    obtain rfl : ad935 = ad937 := (by injection e937)
    replace hx937_0 := Z.up HB.out hx937_0
    replace hx937_1 := Z.up HB.out hx937_1
    replace hx937_2 := Z.up HB.out hx937_2
    replace p937 := eq_true p937
    replace q937 := eq_true q937
    obtain ⟨Ao27, co27, eo27⟩ := Kd.R_slice HO_8.out
    (subst eo27)
    refine start_ (n := 18) (S := fun w' => w'.cell? ⟨gb924, 0, none⟩ = some (.int .i64 a0_0) ∧ w'.cell? ⟨gb924, 1, none⟩ = some (.slice A0_1 l0_1.length c0_1) ∧ w'.cell? ⟨gb924, 2, none⟩ = some (.slice A0_2 l0_2.length c0_2) ∧ w'.cell? (ad935.add ((x10_2).toNat * 3)) = some (.int .i64 ((rd_T59 l2 x10_2).f0)) ∧ w'.cell? ⟨(ad935.add ((x10_2).toNat * 3)).block, (ad935.add ((x10_2).toNat * 3)).off + 1, none⟩ = some (.int .i64 ((rd_T59 l2 x10_2).f1)) ∧ w'.cell? ⟨(ad935.add ((x10_2).toNat * 3)).block, (ad935.add ((x10_2).toNat * 3)).off + 2, none⟩ = some (.int .i64 ((rd_T59 l2 x10_2).f2)) ∧ w'.cell? (ad935.add ((x10_2).toNat * 3)) = some (.int .i64 ((rd_T59 l2 x10_2).f0)) ∧ w'.cell? ⟨(ad935.add ((x10_2).toNat * 3)).block, (ad935.add ((x10_2).toNat * 3)).off + 1, none⟩ = some (.int .i64 ((rd_T59 l2 x10_2).f1)) ∧ w'.cell? ⟨(ad935.add ((x10_2).toNat * 3)).block, (ad935.add ((x10_2).toNat * 3)).off + 2, none⟩ = some (.int .i64 ((rd_T59 l2 x10_2).f2)) ∧ w'.cell? (ad935.add ((x10_2).toNat * 3)) = some (.int .i64 ((rd_T59 l2 x10_2).f0)) ∧ w'.cell? ⟨(ad935.add ((x10_2).toNat * 3)).block, (ad935.add ((x10_2).toNat * 3)).off + 1, none⟩ = some (.int .i64 ((rd_T59 l2 x10_2).f1)) ∧ w'.cell? ⟨(ad935.add ((x10_2).toNat * 3)).block, (ad935.add ((x10_2).toNat * 3)).off + 2, none⟩ = some (.int .i64 ((rd_T59 l2 x10_2).f2))) (ds := []) (Z.mb 18 0) (by kernel_rfl) rfl rfl ⟨Z.b BK924 0, Z.b BK924 1, Z.b BK924 2, (Z.up HB.out hw935_0 :), (Z.up HB.out hw935_1 :), (Z.up HB.out hw935_2 :), (Z.up HB.out hw936_0 :), (Z.up HB.out hw936_1 :), (Z.up HB.out hw936_2 :), (Z.up HB.out hw937_0 :), (Z.up HB.out hw937_1 :), (Z.up HB.out hw937_2 :)⟩ (fun hHeld => ?_); refine with_tabW spec_AfterActs.tab8 spec_AfterActs.bits8 (fun HT_ HW_ => ?_)
    generalize wr.drew = w26 at HO_8 BK924 HB hx935_0 hx935_1 hx935_2 hx936_0 hx936_1 hx936_2 hx937_0 hx937_1 hx937_2 hHeld ⊢
    refine Z.pv 1 31 18 2 HT_.out ?_
    refine Z.pv 2 32 18 6 HT_.out ?_
    refine Z.pv 3 33 18 14 HT_.out ?_
    refine Z.pv 4 34 18 30 HT_.out ?_
    refine Z.pv 5 35 18 62 HT_.out ?_
    refine Z.pv 7 37 18 190 HT_.out ?_
    refine Z.pv 8 38 18 446 HT_.out ?_
    refine Z.pv 9 39 18 958 HT_.out ?_
    refine Z.pv 10 40 18 1982 HT_.out ?_
    refine Z.pv 12 42 18 6078 HT_.out ?_
    refine Z.pv 13 43 18 14270 HT_.out ?_
    refine Z.pv 14 44 18 30654 HT_.out ?_
    refine Z.pv 15 45 18 63422 HT_.out ?_
    refine Z.t12 0 30 18 63423 HT_.out HW_.out hHeld ?_
    refine Z.t12 6 36 18 63487 HT_.out HW_.out hHeld ?_
    refine Z.t12 11 41 18 65535 HT_.out HW_.out hHeld ?_
    refine Z.t12 16 46 18 131071 HT_.out HW_.out hHeld ?_
    refine one_ (i := 17) (N := some 47) (Z.mb 18 262143) rfl rfl (one_of HT_.out (by kernel_rfl)) (by decide) (fun K hK => ?_)
    refine goes_ Try.func27 (by kernel_rfl) rfl #[.agg #[.int .i64 a0_0, .slice A0_1 l0_1.length c0_1, .slice A0_2 l0_2.length c0_2], .slice Ao27 x8_2.length co27, .int .i64 ((rd_T59 l2 x10_2).f0), .int .i64 ((rd_T59 l2 x10_2).f1), .int .i64 ((rd_T59 l2 x10_2).f2)] (by rfl) rfl rfl Z.ar ?_
    with_reducible refine (spec_MayChange.calls k2 a0_0 _ _ l0_1 _ _ l0_2 _ _ x8_2 ((rd_T59 l2 x10_2).f0) ((rd_T59 l2 x10_2).f1) ((rd_T59 l2 x10_2).f2) true _ ?q1 ?q2 ?q3 ?q4 ?q5 ?q6 A21.out).mono ?_
    (case q1 => exact Z.cc HR0_1 HB)
    (case q2 => exact HC0_1.out)
    (case q3 => exact Z.cc HR0_2 HB)
    (case q4 => exact HC0_2.out)
    (case q5 => exact (Kd.R_reads' HO_8.out).2.2)
    (case q6 => exact (Kd.R_reads' HO_8.out).2.1)
    rintro e w28 ⟨rfl, hb⟩
    refine ⟨_, rfl, ?_⟩
    replace HO_8 := Z.rb HO_8 hb
    replace BK924 := Z.bb BK924 hb
    replace HB := Z.st (Z.bs HB.out GE924.out) hb
    (try clear hb)
    refine hK.out _ _ ⟨Z.b BK924 0, Z.b BK924 1, Z.b BK924 2, (Z.up HB.out hw935_0 :), (Z.up HB.out hw935_1 :), (Z.up HB.out hw935_2 :), (Z.up HB.out hw936_0 :), (Z.up HB.out hw936_1 :), (Z.up HB.out hw936_2 :), (Z.up HB.out hw937_0 :), (Z.up HB.out hw937_1 :), (Z.up HB.out hw937_2 :)⟩ (fun hHeld => ?_)
    clear hK K
    refine Z.nm ?_
    refine done_ (done_of HT_.out (by kernel_rfl)) ?_
    try go_wp2
    replace HO_8 := Z.k (Kd.R_drew HO_8.out)
    replace BK924 := Z.k (blk_drew BK924.out)
    replace HB := Z.k (below_drew1 HB.out)
    have p939 : 0 ≤ (x10_2 : Int) := Z.od
    have q939 : x10_2 < (l2.length : Int) := Z.od
    obtain ⟨ad939, e939, hx939_0, hx939_1, hx939_2⟩ := at_T59 HR2.out x10_2 p939 q939
    have hw939_2 := hx939_2
    have hw939_1 := hx939_1
    have hw939_0 := hx939_0
    obtain rfl : ad935 = ad939 := (by injection e939)
    replace hx939_0 := Z.up HB.out hx939_0
    replace hx939_1 := Z.up HB.out hx939_1
    replace hx939_2 := Z.up HB.out hx939_2
    replace p939 := eq_true p939
    replace q939 := eq_true q939
    have p940 : 0 ≤ (x10_2 : Int) := Z.od
    have q940 : x10_2 < (l2.length : Int) := Z.od
    obtain ⟨ad940, e940, hx940_0, hx940_1, hx940_2⟩ := at_T59 HR2.out x10_2 p940 q940
    have hw940_2 := hx940_2
    have hw940_1 := hx940_1
    have hw940_0 := hx940_0
    obtain rfl : ad935 = ad940 := (by injection e940)
    replace hx940_0 := Z.up HB.out hx940_0
    replace hx940_1 := Z.up HB.out hx940_1
    replace hx940_2 := Z.up HB.out hx940_2
    replace p940 := eq_true p940
    replace q940 := eq_true q940
    have p25 : 0 ≤ (((rd_T59 l2 x10_2).f0) : Int) := Z.od
    have q25 : (((rd_T59 l2 x10_2).f0) : Int) < ((x8_2.length : Int) : Int) := Z.od
    obtain ⟨go25, co25, eo25, gb25, gl25, cl25, HG25⟩ := Kd.R_form HO_8.out (by omega)
    (cases eo25)
    have GB25 := Z.k gb25
    have GG25 := Z.k HG25
    clear gb25 gl25 HG25
    obtain ⟨hx25_0, hf25_0⟩ := Kd.R_celln 0 HO_8.out (((rd_T59 l2 x10_2).f0) : Int) p25 q25
    replace p25 := eq_true p25
    replace q25 := eq_true q25
    have HP30 := Kd.R_putn HO_8.out (((rd_T59 l2 x10_2).f0) : Int) ((rd_T59 l2 x10_2).f1)
    rw [← Ny941.out] at HP30
    have HQ30 := Z.k HP30
    clear HP30
    refine start_ (n := 13) (S := fun w' => w'.cell? (ad935.add ((x10_2).toNat * 3)) = some (.int .i64 ((rd_T59 l2 x10_2).f0)) ∧ w'.cell? ⟨(ad935.add ((x10_2).toNat * 3)).block, (ad935.add ((x10_2).toNat * 3)).off + 1, none⟩ = some (.int .i64 ((rd_T59 l2 x10_2).f1)) ∧ w'.cell? ⟨(ad935.add ((x10_2).toNat * 3)).block, (ad935.add ((x10_2).toNat * 3)).off + 2, none⟩ = some (.int .i64 ((rd_T59 l2 x10_2).f2)) ∧ w'.cell? (ad935.add ((x10_2).toNat * 3)) = some (.int .i64 ((rd_T59 l2 x10_2).f0)) ∧ w'.cell? ⟨(ad935.add ((x10_2).toNat * 3)).block, (ad935.add ((x10_2).toNat * 3)).off + 1, none⟩ = some (.int .i64 ((rd_T59 l2 x10_2).f1)) ∧ w'.cell? ⟨(ad935.add ((x10_2).toNat * 3)).block, (ad935.add ((x10_2).toNat * 3)).off + 2, none⟩ = some (.int .i64 ((rd_T59 l2 x10_2).f2))) (ds := [12]) #[false, false, false, false, false, false, false, false, false, false, false, false, false] (by kernel_rfl) rfl rfl ⟨(Z.up HB.out hw939_0 :), (Z.up HB.out hw939_1 :), (Z.up HB.out hw939_2 :), (Z.up HB.out hw940_0 :), (Z.up HB.out hw940_1 :), (Z.up HB.out hw940_2 :)⟩ (fun hHeld => ?_); refine with_tabW spec_AfterActs.tab9 spec_AfterActs.bits9 (fun HT_ HW_ => ?_)
    generalize w28.drew = w29 at HO_8 BK924 HB GG25 HQ30 hf25_0 hx25_0 hx939_0 hx939_1 hx939_2 hx940_0 hx940_1 hx940_2 hHeld ⊢
    refine Z.pv 0 48 13 1 HT_.out ?_
    refine Z.pv 1 49 13 3 HT_.out ?_
    refine Z.pv 2 50 13 7 HT_.out ?_
    refine Z.pv 3 51 13 15 HT_.out ?_
    refine Z.pv 4 52 13 31 HT_.out ?_
    refine Z.pv 6 54 13 95 HT_.out ?_
    refine Z.pv 7 55 13 223 HT_.out ?_
    refine Z.pv 8 56 13 479 HT_.out ?_
    refine Z.pv 9 57 13 991 HT_.out ?_
    refine Z.t6 5 53 13 1023 HT_.out HW_.out hHeld ?_
    refine Z.t6 10 58 13 2047 HT_.out HW_.out hHeld ?_
    refine Z.pv 11 59 13 4095 HT_.out ?_
    refine last_ (i := 12) (N := none) #[true, true, true, true, true, true, true, true, true, true, true, true, true] rfl rfl (one_of HT_.out (by kernel_rfl)) (by decide) (fun K hK => ?_)
    refine skip_ (w1 := ?_) (by rfl) rfl ?_ ?_
    rotate_left
    ·go_simp
     rfl
    refine hK.out _ _ ?_
    clear hK K
    refine done_ (done_of HT_.out (by kernel_rfl)) ?_
    try go_wp2
    go_roundg k2
    case measure => have := HJ3.out; have := HK2.out; omega
    case rel => exact ⟨(y941), (wrap64 (x9_2 + 1)), (wrap64 (x10_2 + 1)), (by rfl), (by rfl), H', ⟨by have := HJ3.out; have := HK2.out; omega⟩, ⟨by exact HQ30.out⟩, ⟨by refine blk_far ?_ (by have h_ := Kd.R_ne HO_8.out BK924.out (by decide); intro e_; exact h_ (by rw [e_]; rfl)) _; exact BK924.out⟩, ⟨by repeat ((with_reducible first | exact HB.out | refine below_set ?_ GB25.out))⟩⟩
end Go.Proofs.Ytkogboechfieeaa.PAll

/- Walks of functions that laws of this seat reach, in the form of the print. -/
import Derived.Test.YtkogboechfieeaaCAll17
import Derived.Test.YtkogboechfieeaaCAll9
-- PRINTED
namespace Go.Proofs.Ytkogboechfieeaa.PAll
open Go.RowKit Go.Proofs.YtkogboechfieeaaW.PrintWords Go.Proofs.YtkogboechfieeaaW.PrintLast Go.Proofs.YtkogboechfieeaaW.PrintMore
attribute [local go_sem] max2_int min2_int max_two min_two max_three min_three max_four min_four
set_option linter.unusedVariables false
set_option linter.unusedSimpArgs false

/-! ### impl_mayAct: function 78 -/
def impl_mayAct.f (k : Nat) (a0_0 : Int) (l0_1 : List Int) (l0_2 : List (List (S37))) (l1 : List Int) (a2_0 : Int) (a2_1 : Int) (a2_2 : Int) : Option (Bool) := (impl_isCrowd.f a0_0 a2_2).bind fun t650 => (if t650 = true then ((impl_mayChange.f k a0_0 l0_1 l0_2 l1 a2_0 a2_1 a2_2).bind fun t651 => (some t651)) else (some false))
theorem impl_mayAct.mono : ∀ a0 a1 a2 a3 a4 a5 a6 k, LeO (impl_mayAct.f k a0 a1 a2 a3 a4 a5 a6) (impl_mayAct.f (k + 1) a0 a1 a2 a3 a4 a5 a6) := by
 intro a0 a1 a2 a3 a4 a5 a6 k
 unfold impl_mayAct.f
 repeat' first
   | (with_reducible exact LeO.refl _)
   | exact impl_mayChange.mono _ _ _ _ _ _ _ _
   | exact LeO.none _
   | refine LeO.ite ?_ ?_
   | refine LeO.bind ?_ (fun _ => ?_)
set_option maxHeartbeats 8000000 in
set_option maxRecDepth 100000 in
theorem impl_mayAct.calls (k : Nat) (a0_0 : Int) (A0_1 : Option Addr) (c0_1 : Nat) (l0_1 : List Int) (A0_2 : Option Addr) (c0_2 : Nat) (l0_2 : List (List (S37))) (A1 : Option Addr) (c1 : Nat) (l1 : List Int) (a2_0 : Int) (a2_1 : Int) (a2_2 : Int) (r : Bool) (w : World) (hr0_1 : Kd.C (Kd.int .i64) w A0_1 l0_1.length l0_1) (hc0_1 : l0_1.length ≤ c0_1) (hr0_2 : Kd.C (Kd.slice 37 k37) w A0_2 l0_2.length l0_2) (hc0_2 : l0_2.length ≤ c0_2) (hr1 : Kd.C (Kd.int .i64) w A1 l1.length l1) (hc1 : l1.length ≤ c1) (h : impl_mayAct.f k a0_0 l0_1 l0_2 l1 a2_0 a2_1 a2_2 = some r) :
  Calls Try.prog 78 #[.agg #[.int .i64 a0_0, .slice A0_1 l0_1.length c0_1, .slice A0_2 l0_2.length c0_2], .slice A1 l1.length c1, .agg #[.int .i64 a2_0, .int .i64 a2_1, .int .i64 a2_2]] w fun e w' => e = .returned (.bool r) ∧ Below w.heap.size w w' := by
 have hu46 := Try.underlying28
 have hu48 := Try.underlying59
 have HR0_1 := Z.k hr0_1
 have HC0_1 := Z.k hc0_1
 clear hr0_1 hc0_1
 have HR0_2 := Z.k hr0_2
 have HC0_2 := Z.k hc0_2
 clear hr0_2 hc0_2
 have HR1 := Z.k hr1
 have HC1 := Z.k hc1
 clear hr1 hc1
 have HB := Z.k (Below.refl w.heap.size w)
 have H := h
 clear h
 unfold impl_mayAct.f at H
 revert H; refine Z.bd ?_; rintro t650 A4 H
 by_cases c5 : t650 = true
 ·subst c5
  rw [if_pos rfl] at H
  revert H; refine Z.bd ?_; rintro t651 A6 H
  obtain rfl := Option.some.inj H
  go_enter Try.func78, Try.ntmps78
  go_wp2_with (first | ((with_reducible refine gate_dst (N := 3) rfl ?_); refine Z.bx #[.int .i64 a0_0, .slice A0_1 l0_1.length c0_1, .slice A0_2 l0_2.length c0_2] 28 HB ?_; clear HB; intro gb648 w7 BK648 GE648 HB hg hb; have GW648 := GE648; clear hb hg) | ((with_reducible refine gate_dst (N := 5) rfl ?_); refine Z.bz #[.int .i64 a2_0, .int .i64 a2_1, .int .i64 a2_2] 59 HB GE648 ?_; clear HB; intro gb649 w8 BK649 GE649 HB hg hb; have GW649 := GE649; have NB648_649 := Z.nl hg BK648; have NB649_648 := Z.ng hg BK648; replace BK648 := Z.bb BK648 hb; clear hb hg; have hnb9 := NB648_649.out; have hnc9 := NB649_648.out; have hcz10 := Z.c3 BK648.out; have hcz11 := Z.c3 BK649.out) | ((with_reducible refine gate_callee (f := 63) rfl ?_); refine goesL_ (some 12) rfl rfl Try.func63 (by kernel_rfl) rfl #[.int .i64 a0_0, .int .i64 a2_2] rfl Z.ar ?_; (with_reducible refine (impl_isCrowd.calls a0_0 a2_2 true _ A4.out).mono ?_); rintro e w' ⟨rfl, ⟨nd, rfl⟩⟩; refine ⟨_, rfl, ?_⟩) | (go_at_call 74; (with_reducible refine (impl_mayChange.calls k a0_0 _ _ l0_1 _ _ l0_2 _ _ l1 a2_0 a2_1 a2_2 t651 _ ?q1 ?q2 ?q3 ?q4 ?q5 ?q6 A6.out).mono ?_); (case q1 => exact (Kd.C_below HR0_1.out (by repeat ((with_reducible first | exact HB.out | apply pw_below_drewN))))); (case q2 => exact HC0_1.out); (case q3 => exact (Kd.C_below HR0_2.out (by repeat ((with_reducible first | exact HB.out | apply pw_below_drewN))))); (case q4 => exact HC0_2.out); (case q5 => exact (Kd.C_below HR1.out (by repeat ((with_reducible first | exact HB.out | apply pw_below_drewN))))); (case q6 => exact HC1.out); rintro e w12 ⟨rfl, hb⟩; replace BK648 := Z.bb BK648 hb; replace BK649 := Z.bb BK649 hb; replace HB := Z.k (below_step (by repeat ((with_reducible first | exact HB.out | apply pw_below_drewN))) hb); (try clear hb)))
  go_ret
  exact ⟨by rfl, HB.out⟩
 replace c5 := Bool.eq_false_iff.mpr c5
 subst c5
 rw [if_neg (show ¬ (false = true) by decide)] at H
 obtain rfl := Option.some.inj H
 go_enter Try.func78, Try.ntmps78
 go_wp2_with (first | ((with_reducible refine gate_dst (N := 3) rfl ?_); refine Z.bx #[.int .i64 a0_0, .slice A0_1 l0_1.length c0_1, .slice A0_2 l0_2.length c0_2] 28 HB ?_; clear HB; intro gb648 w13 BK648 GE648 HB hg hb; have GW648 := GE648; clear hb hg) | ((with_reducible refine gate_dst (N := 5) rfl ?_); refine Z.bz #[.int .i64 a2_0, .int .i64 a2_1, .int .i64 a2_2] 59 HB GE648 ?_; clear HB; intro gb649 w14 BK649 GE649 HB hg hb; have GW649 := GE649; have NB648_649 := Z.nl hg BK648; have NB649_648 := Z.ng hg BK648; replace BK648 := Z.bb BK648 hb; clear hb hg; have hnb15 := NB648_649.out; have hnc15 := NB649_648.out; have hcz16 := Z.c3 BK648.out; have hcz17 := Z.c3 BK649.out) | ((with_reducible refine gate_callee (f := 63) rfl ?_); refine goesL_ (some 12) rfl rfl Try.func63 (by kernel_rfl) rfl #[.int .i64 a0_0, .int .i64 a2_2] rfl Z.ar ?_; (with_reducible refine (impl_isCrowd.calls a0_0 a2_2 false _ A4.out).mono ?_); rintro e w' ⟨rfl, ⟨nd, rfl⟩⟩; refine ⟨_, rfl, ?_⟩))
 go_ret
 exact ⟨by rfl, by repeat ((with_reducible first | exact HB.out | apply pw_below_drewN))⟩

/-! ### impl_AfterActs: function 32 -/
mutual
def impl_AfterActs.j0 : Nat → List Int → List (S59) → Bool → Int → List Int → List (List (S37)) → Option (List Int × Int)
 | 0, _, _, _, _, _, _ => none
 | k + 1, x1, x2, x20, x653000, x653001, x653002 => if x20 = true then (some (([] : List Int), (-1))) else ((some (([] : List Int) : List Int)).bind fun y654 => (if y654.length + x1.length < 17592186044416 then (impl_AfterActs.l0 k (y654 ++ x1) 0 x2 (x2.length : Int) 0 x653000 x653001 x653002) else (none)))
def impl_AfterActs.l0 : Nat → List Int → Int → List (S59) → Int → Int → Int → List Int → List (List (S37)) → Option (List Int × Int)
 | 0, _, _, _, _, _, _, _, _ => none
 | k + 1, x8, x9, x24, x25, x26, x653000, x653001, x653002 => if x26 < x25 then (if 0 ≤ x26 then (if x26 < (x24.length : Int) then ((impl_mayAct.f k x653000 x653001 x653002 x8 ((rd_T59 x24 x26).f0) ((rd_T59 x24 x26).f1) ((rd_T59 x24 x26).f2)).bind fun t662 => (if t662 = true then (if 0 ≤ ((rd_T59 x24 x26).f0) then (if ((rd_T59 x24 x26).f0) < (x8.length : Int) then (impl_AfterActs.l0 k (x8.set (((rd_T59 x24 x26).f0) : Int).toNat ((rd_T59 x24 x26).f1)) (wrap64 (x9 + 1)) x24 x25 (wrap64 (x26 + 1)) x653000 x653001 x653002) else (none)) else (none)) else (impl_AfterActs.l0 k x8 x9 x24 x25 (wrap64 (x26 + 1)) x653000 x653001 x653002))) else (none)) else (none)) else (some (x8, x9))
end
def impl_AfterActs.f (k : Nat) (a0_0 : Int) (l0_1 : List Int) (l0_2 : List (List (S37))) (l1 : List Int) (l2 : List (S59)) : Option (List Int × Int) := (impl_isState.f k a0_0 l0_1 l0_2 l1).bind fun t653 => (if t653 = true then (impl_AfterActs.j0 k l1 l2 (decide ((l2.length : Int) > 12)) a0_0 l0_1 l0_2) else (impl_AfterActs.j0 k l1 l2 true a0_0 l0_1 l0_2))
set_option maxHeartbeats 8000000 in
set_option maxRecDepth 100000 in
theorem impl_AfterActs.calls (k : Nat) (a0_0 : Int) (A0_1 : Option Addr) (c0_1 : Nat) (l0_1 : List Int) (A0_2 : Option Addr) (c0_2 : Nat) (l0_2 : List (List (S37))) (A1 : Option Addr) (c1 : Nat) (l1 : List Int) (A2 : Option Addr) (c2 : Nat) (l2 : List (S59)) (r1 : List Int) (r2 : Int) (w : World) (hr0_1 : Kd.C (Kd.int .i64) w A0_1 l0_1.length l0_1) (hc0_1 : l0_1.length ≤ c0_1) (hr0_2 : Kd.C (Kd.slice 37 k37) w A0_2 l0_2.length l0_2) (hc0_2 : l0_2.length ≤ c0_2) (hr1 : Kd.C (Kd.int .i64) w A1 l1.length l1) (hc1 : l1.length ≤ c1) (hr2 : Kd.C k59 w A2 l2.length l2) (hc2 : l2.length ≤ c2) (h : impl_AfterActs.f k a0_0 l0_1 l0_2 l1 l2 = some (r1, r2)) :
  Calls Try.prog 32 #[.agg #[.int .i64 a0_0, .slice A0_1 l0_1.length c0_1, .slice A0_2 l0_2.length c0_2], .slice A1 l1.length c1, .slice A2 l2.length c2] w fun e w' => ∃ v0_ : Value, e = .returned (.tuple #[v0_, .int .i64 r2]) ∧ Kd.R (Kd.int .i64) 3 w' w.heap.size (fun _ => True) v0_ r1 ∧ Below w.heap.size w w' := by
 have hu46 := Try.underlying28
 have hu48 := Try.underlying59
 have HR0_1 := Z.k hr0_1
 have HC0_1 := Z.k hc0_1
 clear hr0_1 hc0_1
 have HR0_2 := Z.k hr0_2
 have HC0_2 := Z.k hc0_2
 clear hr0_2 hc0_2
 have HR1 := Z.k hr1
 have HC1 := Z.k hc1
 clear hr1 hc1
 have HR2 := Z.k hr2
 have HC2 := Z.k hc2
 clear hr2 hc2
 have HB := Z.k (Below.refl w.heap.size w)
 have H := h
 clear h
 unfold impl_AfterActs.f at H
 have HC4 := Z.k H
 clear H
 go_enter Try.func32, Try.ntmps32
 go_upto_region 1 with (((with_reducible refine gate_dst (N := 3) rfl ?_); (try (refine gate_guard (by rfl) ?_; dsimp only)); refine Z.bx #[.int .i64 a0_0, .slice A0_1 l0_1.length c0_1, .slice A0_2 l0_2.length c0_2] 28 HB ?_; clear HB; intro gb652 w5 BK652 GE652 HB hg hb; have GW652 := GE652; clear hb hg))
 go_cut [20] (fun v20 wc => ∃ (kq : Nat) (x20_3 : Bool), v20 = .bool x20_3 ∧ Aside0 (impl_AfterActs.j0 kq l1 l2 x20_3 a0_0 l0_1 l0_2 = some (r1, r2)) ∧ Aside0 (kq ≤ k) ∧ Aside0 (wc.heap[gb652]? = some (.cells #[.int .i64 a0_0, (.slice A0_1 l0_1.length c0_1), (.slice A0_2 l0_2.length c0_2)] 28 (0, 0))) ∧ Aside0 (Below w.heap.size w wc))
 case first =>
  have H := HC4.out
  clear HC4
  revert H; refine Z.bd ?_; rintro t653 A6 H
  by_cases c7 : t653 = true
  ·subst c7
   rw [if_pos rfl] at H
   have H' := Z.k H
   clear H
   have hcz8 := Z.c3 BK652.out
   go_wp2_with (((with_reducible refine gate_callee (f := 62) rfl ?_); refine goesL_ (some 14) rfl rfl Try.func62 (by kernel_rfl) rfl #[.agg #[.int .i64 a0_0, .slice A0_1 l0_1.length c0_1, .slice A0_2 l0_2.length c0_2], .slice A1 l1.length c1] rfl Z.ar ?_; (with_reducible refine (impl_isState.calls k a0_0 _ _ l0_1 _ _ l0_2 _ _ l1 true _ ?q1 ?q2 ?q3 ?q4 ?q5 ?q6 A6.out).mono ?_); (case q1 => exact Z.cc HR0_1 HB); (case q2 => exact HC0_1.out); (case q3 => exact Z.cc HR0_2 HB); (case q4 => exact HC0_2.out); (case q5 => exact Z.cc HR1 HB); (case q6 => exact HC1.out); rintro e w9 ⟨rfl, hb⟩; refine ⟨_, rfl, ?_⟩; replace BK652 := Z.bb BK652 hb; replace HB := Z.st (Z.bs HB.out GE652.out) hb; (try clear hb)))
   go_meet
   case rel => exact ⟨_, (decide ((l2.length : Int) > 12)), (by rfl), H', ⟨by omega⟩, ⟨by exact BK652.out⟩, ⟨Z.bs HB.out GE652.out⟩⟩
  replace c7 := Bool.eq_false_iff.mpr c7
  subst c7
  rw [if_neg (show ¬ (false = true) by decide)] at H
  have H' := Z.k H
  clear H
  have hcz10 := Z.c3 BK652.out
  go_wp2_with (((with_reducible refine gate_callee (f := 62) rfl ?_); refine goesL_ (some 14) rfl rfl Try.func62 (by kernel_rfl) rfl #[.agg #[.int .i64 a0_0, .slice A0_1 l0_1.length c0_1, .slice A0_2 l0_2.length c0_2], .slice A1 l1.length c1] rfl Z.ar ?_; (with_reducible refine (impl_isState.calls k a0_0 _ _ l0_1 _ _ l0_2 _ _ l1 false _ ?q1 ?q2 ?q3 ?q4 ?q5 ?q6 A6.out).mono ?_); (case q1 => exact Z.cc HR0_1 HB); (case q2 => exact HC0_1.out); (case q3 => exact Z.cc HR0_2 HB); (case q4 => exact HC0_2.out); (case q5 => exact Z.cc HR1 HB); (case q6 => exact HC1.out); rintro e w11 ⟨rfl, hb⟩; refine ⟨_, rfl, ?_⟩; replace BK652 := Z.bb BK652 hb; replace HB := Z.st (Z.bs HB.out GE652.out) hb; (try clear hb)))
  go_meet
  case rel => exact ⟨_, (true), (by rfl), H', ⟨by omega⟩, ⟨by exact BK652.out⟩, ⟨Z.bs HB.out GE652.out⟩⟩
 case rest =>
  clear HC4
  obtain ⟨kq, x20_3, rfl, HA, HJ3, BK652, HB⟩ := hcut
  cases kq with
  | zero => exact absurd HA.out (by simp [impl_AfterActs.j0])
  | succ kj3 =>
   have H := HA.out
   clear HA
   simp only [impl_AfterActs.j0] at H
   by_cases c12 : x20_3 = true
   ·subst c12
    rw [if_pos rfl] at H
    simp only [Option.some.injEq, Prod.mk.injEq] at H
    obtain ⟨rfl, rfl⟩ := H
    go_wp2
    go_ret2
    exact ⟨_, by rfl, by exact Kd.R_nil _ _ _ _ _, Z.bs HB.out GE652.out⟩
   replace c12 := Bool.eq_false_iff.mpr c12
   subst c12
   rw [if_neg (show ¬ (false = true) by decide)] at H
   obtain ⟨y654, hy654⟩ : ∃ y_ : List Int, y_ = (([] : List Int)) := ⟨_, rfl⟩
   replace H : (if y654.length + l1.length < 17592186044416 then (impl_AfterActs.l0 kj3 (y654 ++ l1) 0 l2 (l2.length : Int) 0 a0_0 l0_1 l0_2) else (none)) = some (r1, r2) := by (have H2_ := (Option.bind_some _ _).symm.trans H; rw [hy654]; with_reducible exact H2_)
   have Ny654 := Z.k hy654
   clear hy654
   obtain ⟨c13, H⟩ := Z.ifp H
   have LMc13 := Z.k c13
   clear c13
   obtain ⟨y657, hy657⟩ : ∃ y_ : List Int, y_ = (y654 ++ l1) := ⟨_, rfl⟩
   replace H : (impl_AfterActs.l0 kj3 y657 0 l2 (l2.length : Int) 0 a0_0 l0_1 l0_2) = some (r1, r2) := by (rw [hy657]; with_reducible exact H)
   have Ny657 := Z.k hy657
   clear hy657
   have H' := Z.k H
   clear H
   go_wp2_with (first | ((with_reducible refine gate_dst (N := 21) rfl ?_); (try (refine gate_guard (by rfl) ?_; dsimp only)); refine Kd.R_lit (Kd.int .i64) _ 3 ?hg (N := 21) ?hd (xs := ([] : List Int)) (inner := []) (ok := fun _ => True) (okp := fun _ => True) ?hr ?hp (fun _ hk => hk) trivial (Below.refl _ _) (Nat.le_refl _) (by simp) ?_; (case hd | hg => rfl); (case hr => (go_simp; done)); (case hp => exact (Reps.none _ _)); intro v655 w14 ho15 hb hg_ hnew_; clear hg_ hnew_; (rw [← Ny654.out] at ho15); have HO656 := Z.k (Kd.R_lower ho15 (below_size (Z.bs HB.out GE652.out))); replace BK652 := Z.bb BK652 hb; replace HB := Z.st (Z.bs HB.out GE652.out) hb; clear hb ho15) | ((with_reducible refine gate_builtin (b := .append) (xs := #[.tmp 21, .tmp 22]) rfl ?_); (try (refine gate_guard (by rfl) ?_; dsimp only)); at_builtin; refine Kd.R_append_rows (Kd.int .i64) (w0 := w) w.heap.size rfl (.tmp 21) (.tmp 22) 23 3 (.int .i64 0) 8 rfl Try.underlying23 info3 rfl (by decide) (by omega) v655 y654 l1 _ _ _ (fun _ => True) (fun _ => False) rfl rfl ?aO ?aR (fun _ _ h => h) (fun _ h => h.elim) ?aF ?aB ?aS ?aL ?_; (case aR => exact Z.cc HR1 HB); (case aB => exact (Z.bs HB.out GE652.out)); (case aF => exact (fun _ _ => trivial)); (case aO => exact HO656.out); (case aS => exact (below_size (Z.bs HB.out GE652.out))); (case aL => have := LMc13.out; omega); intro v658 w16 ho hb hg hat; rw [← Ny657.out] at ho; replace BK652 := Z.k (blk_grown (g := gb652) (o := .cells #[.int .i64 a0_0, .slice A0_1 l0_1.length c0_1, .slice A0_2 l0_2.length c0_2] 28 (0, 0)) (Z.bk BK652.out) hg (Kd.R_ne HO656.out BK652.out (by decide))); replace HB := Z.k hb; have HO659 := Z.k ho; clear HO656; clear ho hb hg hat))
   go_loopg [9, 26] kj3 (fun kq v9 v26 w' => ∃ (x8_2 : List Int) (x9_2 : Int) (x26_2 : Int), v9 = .int .i64 x9_2 ∧ v26 = .int .i64 x26_2 ∧ Aside0 (impl_AfterActs.l0 kq x8_2 x9_2 l2 (l2.length : Int) x26_2 a0_0 l0_1 l0_2 = some (r1, r2)) ∧ Aside0 (kq ≤ kj3) ∧ Aside0 (Kd.R (Kd.int .i64) 3 w' w.heap.size (fun _ => True) v658 x8_2) ∧ Aside0 (w'.heap[gb652]? = some (.cells #[.int .i64 a0_0, (.slice A0_1 l0_1.length c0_1), (.slice A0_2 l0_2.length c0_2)] 28 (0, 0))) ∧ Aside0 (Below w.heap.size w w'))
   case atStart => exact ⟨(y657), (0), (0), (by rfl), (by rfl), H', ⟨Nat.le_refl _⟩, ⟨by exact HO659.out⟩, ⟨by exact BK652.out⟩, ⟨Z.bs HB.out GE652.out⟩⟩
   clear H'
   obtain ⟨x8_2, x9_2, x26_2, rfl, rfl, HA, HK2, HO_8, BK652, HB⟩ := hrel
   cases gk with
   | zero => exact absurd HA.out (by simp [impl_AfterActs.l0])
   | succ k2 =>
    have H := HA.out
    clear HA
    simp only [impl_AfterActs.l0] at H
    revert H; refine Z.fm ?_ ?_ <;> intro c17b0 H
    ·simp only [Option.some.injEq, Prod.mk.injEq] at H
     obtain ⟨rfl, rfl⟩ := H
     go_wp2
     go_ret2
     exact ⟨_, by rfl, by exact HO_8.out, Z.bs HB.out GE652.out⟩

    obtain ⟨c18b0, H⟩ := Z.fd H
    obtain ⟨c19b0, H⟩ := Z.fd H
    revert H; refine Z.bd ?_; rintro t662 A20 H
    by_cases c21 : t662 = true
    ·subst c21
     rw [if_pos rfl] at H
     obtain ⟨c22b0, H⟩ := Z.fd H
     obtain ⟨c23b0, H⟩ := Z.fd H
     obtain ⟨y663, hy663⟩ : ∃ y_ : List Int, y_ = (x8_2.set (((rd_T59 l2 x26_2).f0) : Int).toNat ((rd_T59 l2 x26_2).f1)) := ⟨_, rfl⟩
     replace H : (impl_AfterActs.l0 k2 y663 (wrap64 (x9_2 + 1)) l2 (l2.length : Int) (wrap64 (x26_2 + 1)) a0_0 l0_1 l0_2) = some (r1, r2) := by (rw [hy663]; with_reducible exact H)
     have Ny663 := Z.k hy663
     clear hy663
     have H' := Z.k H
     clear H
     have p660 : 0 ≤ (x26_2 : Int) := Z.od
     have q660 : x26_2 < (l2.length : Int) := Z.od
     obtain ⟨ad660, rfl, hx660_0, hx660_1, hx660_2⟩ := at_T59 HR2.out x26_2 p660 q660
     replace hx660_0 := Z.up HB.out hx660_0
     replace hx660_1 := Z.up HB.out hx660_1
     replace hx660_2 := Z.up HB.out hx660_2
     replace p660 := eq_true p660
     replace q660 := eq_true q660
     go_wp2_with (first | ((with_reducible refine gate_dst (N := 11) rfl ?_); (try (refine gate_guard (by rfl) ?_; dsimp only)); refine Z.bz #[.int .i64 0, .int .i64 0, .int .i64 0] 59 HB GE652 ?_; clear HB; intro gb661 w25 BK661 GE661 HB hg hb; have GW661 := GE661; replace HO_8 := Z.rb HO_8 hb; have NB652_661 := Z.nl hg BK652; have NB661_652 := Z.ng hg BK652; replace BK652 := Z.bb BK652 hb; clear hb hg; have hnb26 := NB661_652.out; have hnc26 := NB652_661.out; have hcz27 := Z.c3 BK661.out; have hcz28 := Z.c3 BK652.out; obtain ⟨Ao29, co29, eo29⟩ := Kd.R_slice HO_8.out; subst eo29) | ((with_reducible refine gate_callee (f := 78) rfl ?_); refine goesL_ (some 33) rfl rfl Try.func78 (by kernel_rfl) rfl #[.agg #[.int .i64 a0_0, .slice A0_1 l0_1.length c0_1, .slice A0_2 l0_2.length c0_2], .slice Ao29 x8_2.length co29, .agg #[.int .i64 ((rd_T59 l2 x26_2).f0), .int .i64 ((rd_T59 l2 x26_2).f1), .int .i64 ((rd_T59 l2 x26_2).f2)]] rfl Z.ar ?_; (with_reducible refine (impl_mayAct.calls k2 a0_0 _ _ l0_1 _ _ l0_2 _ _ x8_2 ((rd_T59 l2 x26_2).f0) ((rd_T59 l2 x26_2).f1) ((rd_T59 l2 x26_2).f2) true _ ?q1 ?q2 ?q3 ?q4 ?q5 ?q6 A20.out).mono ?_); (case q1 => exact Kd.C_below HR0_1.out (by repeat ((with_reducible first | exact HB.out | refine below_set ?_ GE661.out)))); (case q2 => exact HC0_1.out); (case q3 => exact Kd.C_below HR0_2.out (by repeat ((with_reducible first | exact HB.out | refine below_set ?_ GE661.out)))); (case q4 => exact HC0_2.out); (case q5 => refine (Kd.R_reads' (e := 3) (base := w.heap.size) (ok := fun k_ => True) (n := x8_2.length) (c := co29) ?_).2.2; exact (Kd.R_mono (Kd.R_far (p := ⟨gb661, 2, none⟩) (Kd.R_far (p := ⟨gb661, 1, none⟩) (Kd.R_far (p := ⟨gb661, 0, none⟩) (Kd.R_types HO_8.out BK661.out (by decide)) (fun _ hk => hk.2) (.int .i64 ((rd_T59 l2 x26_2).f0))) (fun _ hk => hk.2) (.int .i64 ((rd_T59 l2 x26_2).f1))) (fun _ hk => hk.2) (.int .i64 ((rd_T59 l2 x26_2).f2))) (fun _ h_ => h_.1))); (case q6 => exact (Kd.R_reads' HO_8.out).2.1); rintro e w30 ⟨rfl, hb⟩; refine ⟨_, rfl, ?_⟩; replace HO_8 := Z.k (Kd.R_below (Kd.R_mono (Kd.R_far (p := ⟨gb661, 2, none⟩) (Kd.R_far (p := ⟨gb661, 1, none⟩) (Kd.R_far (p := ⟨gb661, 0, none⟩) (Kd.R_types HO_8.out BK661.out (by decide)) (fun _ hk => hk.2) (.int .i64 ((rd_T59 l2 x26_2).f0))) (fun _ hk => hk.2) (.int .i64 ((rd_T59 l2 x26_2).f1))) (fun _ hk => hk.2) (.int .i64 ((rd_T59 l2 x26_2).f2))) (fun _ h_ => h_.1)) hb); replace BK652 := Z.k (blk_below (g := gb652) (o := .cells #[.int .i64 a0_0, .slice A0_1 l0_1.length c0_1, .slice A0_2 l0_2.length c0_2] 28 (0, 0)) (by refine blk_far ?_ NB652_661.out _; refine blk_far ?_ NB652_661.out _; refine blk_far ?_ NB652_661.out _; exact BK652.out) hb); replace BK661 := Z.k (blk_below (g := gb661) (o := .cells #[.int .i64 ((rd_T59 l2 x26_2).f0), .int .i64 ((rd_T59 l2 x26_2).f1), .int .i64 ((rd_T59 l2 x26_2).f2)] 59 (0, 0)) (by refine blk_put (cs := #[.int .i64 ((rd_T59 l2 x26_2).f0), .int .i64 ((rd_T59 l2 x26_2).f1), .int .i64 0]) ?_ 2 _ rfl; refine blk_put (cs := #[.int .i64 ((rd_T59 l2 x26_2).f0), .int .i64 0, .int .i64 0]) ?_ 1 _ rfl; refine blk_put (cs := #[.int .i64 0, .int .i64 0, .int .i64 0]) ?_ 0 _ rfl; exact BK661.out) hb); replace HB := Z.k (below_step (by repeat ((with_reducible first | exact HB.out | refine below_set ?_ GE661.out))) hb); (try clear hb); have hcz31 := Z.c3 BK661.out; have p24 : 0 ≤ (((rd_T59 l2 x26_2).f0) : Int) := Z.od; have q24 : (((rd_T59 l2 x26_2).f0) : Int) < ((x8_2.length : Int) : Int) := Z.od; obtain ⟨go24, co24, eo24, gb24, gl24, cl24, HG24⟩ := Kd.R_form HO_8.out (by omega); (cases eo24); have GB24 := Z.k gb24; have GG24 := Z.k HG24; clear gb24 gl24 HG24; obtain ⟨hx24_0, hf24_0⟩ := Kd.R_celln 0 HO_8.out (((rd_T59 l2 x26_2).f0) : Int) p24 q24; replace p24 := eq_true p24; replace q24 := eq_true q24; obtain ⟨hy32_, hz32_⟩ := Kd.R_celln 0 HO_8.out (((rd_T59 l2 x26_2).f0) : Int) (Z.od) (Z.od); have HP32 := Kd.R_putg HO_8.out (((rd_T59 l2 x26_2).f0) : Int) ((rd_T59 l2 x26_2).f1)) | ((with_reducible refine gate_store (t := 3) (p := 39) rfl ?_); refine store_event (t := 3) (p := 39) (v := ?vo_w33) (w1 := (w30.setCell ⟨go24, (((rd_T59 l2 x26_2).f0) : Int).toNat, none⟩ (.int .i64 ((rd_T59 l2 x26_2).f1)))) ?hg ?ho ?hn ?hr ?_; (case ho => rfl); (case hg => rfl); (case hn => rfl); (case hr => (go_simp; done)); intro w33 hw; have hg : w30.grownBy w33 (some go24) := (by rw [hw]; exact HP32.2); have hp_ : Kd.R (Kd.int .i64) 3 w33 w.heap.size (fun _ => True) (.slice (some ⟨go24, 0, none⟩) x8_2.length co29) y663 := (by rw [hw, Ny663.out]; exact HP32.1); clear HP32; replace BK652 := Z.k (blk_grown (g := gb652) (o := .cells #[.int .i64 a0_0, .slice A0_1 l0_1.length c0_1, .slice A0_2 l0_2.length c0_2] 28 (0, 0)) (Z.bk BK652.out) hg (Kd.R_ne HO_8.out BK652.out (by decide))); replace BK661 := Z.k (blk_grown (g := gb661) (o := .cells #[.int .i64 ((rd_T59 l2 x26_2).f0), .int .i64 ((rd_T59 l2 x26_2).f1), .int .i64 ((rd_T59 l2 x26_2).f2)] 59 (0, 0)) (Z.bk BK661.out) hg (Kd.R_ne HO_8.out BK661.out (by decide))); replace HO_8 := Z.k hp_; replace HB := Z.k ((by rw [hw]; exact below_set (HB.out) GB24.out : Below w.heap.size w w33)); clear hg hw hp_))
     go_roundg k2
     case measure => have := HJ3.out; have := HK2.out; omega
     case rel => exact ⟨(y663), (wrap64 (x9_2 + 1)), (wrap64 (x26_2 + 1)), (by rfl), (by rfl), H', ⟨by have := HJ3.out; have := HK2.out; omega⟩, ⟨by exact HO_8.out⟩, ⟨by exact BK652.out⟩, ⟨HB.out⟩⟩
    replace c21 := Bool.eq_false_iff.mpr c21
    subst c21
    rw [if_neg (show ¬ (false = true) by decide)] at H
    have H' := Z.k H
    clear H
    have p660 : 0 ≤ (x26_2 : Int) := Z.od
    have q660 : x26_2 < (l2.length : Int) := Z.od
    obtain ⟨ad660, rfl, hx660_0, hx660_1, hx660_2⟩ := at_T59 HR2.out x26_2 p660 q660
    replace hx660_0 := Z.up HB.out hx660_0
    replace hx660_1 := Z.up HB.out hx660_1
    replace hx660_2 := Z.up HB.out hx660_2
    replace p660 := eq_true p660
    replace q660 := eq_true q660
    go_wp2_with (first | ((with_reducible refine gate_dst (N := 11) rfl ?_); (try (refine gate_guard (by rfl) ?_; dsimp only)); refine Z.bz #[.int .i64 0, .int .i64 0, .int .i64 0] 59 HB GE652 ?_; clear HB; intro gb661 w34 BK661 GE661 HB hg hb; have GW661 := GE661; replace HO_8 := Z.rb HO_8 hb; have NB652_661 := Z.nl hg BK652; have NB661_652 := Z.ng hg BK652; replace BK652 := Z.bb BK652 hb; clear hb hg; have hnb35 := NB661_652.out; have hnc35 := NB652_661.out; have hcz36 := Z.c3 BK661.out; have hcz37 := Z.c3 BK652.out; obtain ⟨Ao38, co38, eo38⟩ := Kd.R_slice HO_8.out; subst eo38) | ((with_reducible refine gate_callee (f := 78) rfl ?_); refine goesL_ (some 33) rfl rfl Try.func78 (by kernel_rfl) rfl #[.agg #[.int .i64 a0_0, .slice A0_1 l0_1.length c0_1, .slice A0_2 l0_2.length c0_2], .slice Ao38 x8_2.length co38, .agg #[.int .i64 ((rd_T59 l2 x26_2).f0), .int .i64 ((rd_T59 l2 x26_2).f1), .int .i64 ((rd_T59 l2 x26_2).f2)]] rfl Z.ar ?_; (with_reducible refine (impl_mayAct.calls k2 a0_0 _ _ l0_1 _ _ l0_2 _ _ x8_2 ((rd_T59 l2 x26_2).f0) ((rd_T59 l2 x26_2).f1) ((rd_T59 l2 x26_2).f2) false _ ?q1 ?q2 ?q3 ?q4 ?q5 ?q6 A20.out).mono ?_); (case q1 => exact Kd.C_below HR0_1.out (by repeat ((with_reducible first | exact HB.out | refine below_set ?_ GE661.out)))); (case q2 => exact HC0_1.out); (case q3 => exact Kd.C_below HR0_2.out (by repeat ((with_reducible first | exact HB.out | refine below_set ?_ GE661.out)))); (case q4 => exact HC0_2.out); (case q5 => refine (Kd.R_reads' (e := 3) (base := w.heap.size) (ok := fun k_ => True) (n := x8_2.length) (c := co38) ?_).2.2; exact (Kd.R_mono (Kd.R_far (p := ⟨gb661, 2, none⟩) (Kd.R_far (p := ⟨gb661, 1, none⟩) (Kd.R_far (p := ⟨gb661, 0, none⟩) (Kd.R_types HO_8.out BK661.out (by decide)) (fun _ hk => hk.2) (.int .i64 ((rd_T59 l2 x26_2).f0))) (fun _ hk => hk.2) (.int .i64 ((rd_T59 l2 x26_2).f1))) (fun _ hk => hk.2) (.int .i64 ((rd_T59 l2 x26_2).f2))) (fun _ h_ => h_.1))); (case q6 => exact (Kd.R_reads' HO_8.out).2.1); rintro e w39 ⟨rfl, hb⟩; refine ⟨_, rfl, ?_⟩; replace HO_8 := Z.k (Kd.R_below (Kd.R_mono (Kd.R_far (p := ⟨gb661, 2, none⟩) (Kd.R_far (p := ⟨gb661, 1, none⟩) (Kd.R_far (p := ⟨gb661, 0, none⟩) (Kd.R_types HO_8.out BK661.out (by decide)) (fun _ hk => hk.2) (.int .i64 ((rd_T59 l2 x26_2).f0))) (fun _ hk => hk.2) (.int .i64 ((rd_T59 l2 x26_2).f1))) (fun _ hk => hk.2) (.int .i64 ((rd_T59 l2 x26_2).f2))) (fun _ h_ => h_.1)) hb); replace BK652 := Z.k (blk_below (g := gb652) (o := .cells #[.int .i64 a0_0, .slice A0_1 l0_1.length c0_1, .slice A0_2 l0_2.length c0_2] 28 (0, 0)) (by refine blk_far ?_ NB652_661.out _; refine blk_far ?_ NB652_661.out _; refine blk_far ?_ NB652_661.out _; exact BK652.out) hb); replace BK661 := Z.k (blk_below (g := gb661) (o := .cells #[.int .i64 ((rd_T59 l2 x26_2).f0), .int .i64 ((rd_T59 l2 x26_2).f1), .int .i64 ((rd_T59 l2 x26_2).f2)] 59 (0, 0)) (by refine blk_put (cs := #[.int .i64 ((rd_T59 l2 x26_2).f0), .int .i64 ((rd_T59 l2 x26_2).f1), .int .i64 0]) ?_ 2 _ rfl; refine blk_put (cs := #[.int .i64 ((rd_T59 l2 x26_2).f0), .int .i64 0, .int .i64 0]) ?_ 1 _ rfl; refine blk_put (cs := #[.int .i64 0, .int .i64 0, .int .i64 0]) ?_ 0 _ rfl; exact BK661.out) hb); replace HB := Z.k (below_step (by repeat ((with_reducible first | exact HB.out | refine below_set ?_ GE661.out))) hb); (try clear hb)))
    go_roundg k2
    case measure => have := HJ3.out; have := HK2.out; omega
    case rel => exact ⟨(x8_2), (x9_2), (wrap64 (x26_2 + 1)), (by rfl), (by rfl), H', ⟨by have := HJ3.out; have := HK2.out; omega⟩, ⟨by exact HO_8.out⟩, ⟨by exact BK652.out⟩, ⟨HB.out⟩⟩
end Go.Proofs.Ytkogboechfieeaa.PAll

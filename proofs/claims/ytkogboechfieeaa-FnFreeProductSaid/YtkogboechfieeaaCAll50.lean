/- Walks of functions that laws of this seat reach, in the form of the print. -/
import Derived.Test.YtkogboechfieeaaCAll41
import Derived.Test.YtkogboechfieeaaCAll72
import Derived.Test.YtkogboechfieeaaV2
-- PRINTED
namespace Go.Proofs.Ytkogboechfieeaa.PAll
open Go.RowKit Go.Proofs.YtkogboechfieeaaW.PrintWords Go.Proofs.YtkogboechfieeaaW.PrintLast Go.Proofs.YtkogboechfieeaaW.PrintMore
attribute [local go_sem] max2_int min2_int max_two min_two max_three min_three max_four min_four
set_option linter.unusedVariables false
set_option linter.unusedSimpArgs false

/-! ### laws_FnFreeProduct: function 3 -/
mutual
def laws_FnFreeProduct.j0 : Nat → List Int → Int → Bool → Int → List Int → List (List (S37)) → Option (Bool)
 | 0, _, _, _, _, _, _ => none
 | k + 1, x4, x5, x33, x122, x109, x107 => if x33 = true then ((laws_alive.f).bind fun t472 => (some t472)) else (laws_FnFreeProduct.l0 k x4 x5 0 x122 x109 x107 x122 x109 ([] : List (List (S37))))
def laws_FnFreeProduct.l0 : Nat → List Int → Int → Int → Int → List Int → List (List (S37)) → Int → List Int → List (List (S37)) → Option (Bool)
 | 0, _, _, _, _, _, _, _, _, _ => none
 | k + 1, x4, x5, x7, x122, x109, x107, x128, x113, x103 => if x7 < (x107.length : Int) then (laws_FnFreeProduct.l1 k x4 x5 x7 (([] : List (S37))) 0 x122 x109 x107 x128 x113 x103) else (laws_FnFreeProduct.l2 k x4 x5 1 0 x122 x109 x107 x128 x113 x103)
def laws_FnFreeProduct.l1 : Nat → List Int → Int → Int → List (S37) → Int → Int → List Int → List (List (S37)) → Int → List Int → List (List (S37)) → Option (Bool)
 | 0, _, _, _, _, _, _, _, _, _, _, _ => none
 | k + 1, x4, x5, x7, x8, x9, x122, x109, x107, x128, x113, x103 => if 0 ≤ x7 then (if x7 < (x107.length : Int) then (if x9 < ((rd_L5 x107 x7).length : Int) then (if 0 ≤ x9 then (if x8.length < 3518437208883 then (laws_FnFreeProduct.l1 k x4 x5 x7 (x8 ++ [(⟨(rd_T37 (rd_L5 x107 x7) x9).f0, (-1), 0⟩ : S37)]) (wrap64 (x9 + 1)) x122 x109 x107 x128 x113 x103) else (none)) else (none)) else (if x103.length < 5864062014805 then (laws_FnFreeProduct.l0 k x4 x5 (wrap64 (x7 + 1)) x122 x109 x107 x128 x113 (x103 ++ [x8])) else (none))) else (none)) else (none)
def laws_FnFreeProduct.l2 : Nat → List Int → Int → Int → Int → Int → List Int → List (List (S37)) → Int → List Int → List (List (S37)) → Option (Bool)
 | 0, _, _, _, _, _, _, _, _, _, _ => none
 | k + 1, x4, x5, x10, x11, x122, x109, x107, x128, x113, x103 => if x11 < (x107.length : Int) then (if 0 ≤ x11 then (if x11 ≤ (wrap64 (x11 + 1)) then (if (wrap64 (x11 + 1)) ≤ (x103.length : Int) then (if (wrap64 (x11 + 1)) ≤ (x4.length : Int) then ((impl_ReachOf.f k x122 x109 ((x103.take ((wrap64 (x11 + 1)) : Int).toNat).drop (x11 : Int).toNat) ((x4.take ((wrap64 (x11 + 1)) : Int).toNat).drop (x11 : Int).toNat) x5).bind fun t497 => (laws_FnFreeProduct.l2 k x4 x5 (wrap64 (x10 * (t497.length : Int))) (wrap64 (x11 + 1)) x122 x109 x107 x128 x113 x103)) else (none)) else (none)) else (none)) else (none)) else ((laws_alive.f).bind fun t500 => (if t500 = true then ((impl_ReachOf.f k x128 x113 x103 x4 x5).bind fun t501 => (if (t501.length : Int) = x10 then ((impl_ReachOf.f k x122 x109 x107 x4 x5).bind fun t504 => (some (decide ((t504.length : Int) ≤ x10)))) else (some false))) else (some false)))
end
def laws_FnFreeProduct.f (k : Nat) (l0 : List Int) : Option (Bool) := if (l0.length : Int) > 1048576 then (some true) else ((spec_DrawReachOf.f k l0).bind fun bt458 => ((spec_StateOk.f k bt458.1 bt458.2.1 bt458.2.2.1 bt458.2.2.2.1).bind fun t470 => (if t470 = true then ((spec_CrowdOk.f bt458.1 bt458.2.2.2.2).bind fun t471 => (laws_FnFreeProduct.j0 k bt458.2.2.2.1 bt458.2.2.2.2 (!t471) bt458.1 bt458.2.1 bt458.2.2.1)) else (laws_FnFreeProduct.j0 k bt458.2.2.2.1 bt458.2.2.2.2 true bt458.1 bt458.2.1 bt458.2.2.1))))
def laws_FnFreeProduct.T20 : Bool × List (List Nat × List Nat) := (true, [([], []), ([0], [0]), ([], []), ([2], [2]), ([], []), ([], []), ([5], [5]), ([3, 4, 6], [3, 4, 6]), ([1, 7], [1, 7]), ([], []), ([9, 8, 0, 1, 2, 3, 4, 5, 6, 7, 8, 9], [8, 9])])
def laws_FnFreeProduct.B20 : List Nat := [0, 1, 0, 4, 0, 0, 32, 124, 255, 0, 1023]
theorem laws_FnFreeProduct.tab20 : rtab .any (opsOf Try.f3 20) = laws_FnFreeProduct.T20 := by kernel_rfl
theorem laws_FnFreeProduct.bits20 : waitsOk laws_FnFreeProduct.T20.2 laws_FnFreeProduct.B20 = true := by kernel_rfl
def laws_FnFreeProduct.T21 : Bool × List (List Nat × List Nat) := (true, [([], []), ([], []), ([], []), ([], []), ([], []), ([4], [4]), ([2, 3, 5], [2, 3, 5]), ([], []), ([1, 6, 7], [1, 6, 7]), ([8], [8]), ([0, 9], [0, 9]), ([10, 8, 0, 1, 2, 3, 4, 5, 6, 7, 8, 9, 10], [0, 10])])
def laws_FnFreeProduct.B21 : List Nat := [0, 0, 0, 0, 0, 16, 60, 0, 254, 510, 1023, 2047]
theorem laws_FnFreeProduct.tab21 : rtab .any (opsOf Try.f3 21) = laws_FnFreeProduct.T21 := by kernel_rfl
theorem laws_FnFreeProduct.bits21 : waitsOk laws_FnFreeProduct.T21.2 laws_FnFreeProduct.B21 = true := by kernel_rfl
set_option maxHeartbeats 8000000 in
set_option maxRecDepth 100000 in
theorem laws_FnFreeProduct.calls (k : Nat) (A0 : Option Addr) (c0 : Nat) (l0 : List Int) (r : Bool) (w : World) (hr0 : Kd.C (Kd.int .u8) w A0 l0.length l0) (hc0 : l0.length ≤ c0) (h : laws_FnFreeProduct.f k l0 = some r) :
  Calls Try.prog 3 #[.slice A0 l0.length c0] w fun e w' => e = .returned (.bool r) ∧ Below w.heap.size w w' := by
 have hu28 := Try.underlying28
 have hu25 := Try.underlying25
 have hu37 := Try.underlying37
 have HR0 := Z.k hr0
 have HC0 := Z.k hc0
 clear hr0 hc0
 have HB := Z.k (Below.refl w.heap.size w)
 have H := h
 clear h
 unfold laws_FnFreeProduct.f at H
 by_cases c2 : (l0.length : Int) > 1048576
 ·rw [if_pos c2] at H
  have c2b0 : decide (1048576 < (l0.length : Int)) = true := decide_eq_true c2
  have c2b1 : decide (1048576 < l0.length) = true := decide_eq_true (by omega)
  clear c2
  obtain rfl := Option.some.inj H
  go_enter Try.func3, Try.ntmps3
  go_wp2
  go_ret
  exact ⟨by first | rfl | (simp [errW_none, errW_some] <;> rfl) | (simp [*, errW_none, errW_some] <;> rfl), Z.bl HB.out⟩
 rw [if_neg c2] at H
 have c2b0 : decide (1048576 < (l0.length : Int)) = false := decide_eq_false c2
 have c2b1 : decide (1048576 < l0.length) = false := decide_eq_false (by omega)
 clear c2
 revert H; refine Z.bd ?_; rintro ⟨t458, t459, t462, t465, t468⟩ A3 H
 try dsimp only at H
 have HC4 := Z.k H
 clear H
 go_enter Try.func3, Try.ntmps3
 go_upto_region 4 with (first | ((with_reducible refine gate_callee (f := 15) rfl ?_); refine goesL_ (some 18) rfl rfl Try.func15 (by kernel_rfl) rfl #[.slice A0 l0.length c0] rfl Z.ar ?_; (with_reducible refine (spec_DrawReachOf.calls k _ _ l0 t458 t459 t462 t465 t468 _ ?q1 ?q2 A3.out).mono ?_); (case q1 => repeat (first | exact HR0.out | (with_reducible refine Kd.C_alloc ?_ _) | (with_reducible refine Kd.C_drewN ?_ _) | (with_reducible refine Kd.C_drew ?_))); (case q2 => exact HC0.out); rintro e w5 ⟨v460, v463, v466, rfl, ho0, ho1, ho2, hb⟩; refine ⟨_, rfl, ?_⟩; have HO461 := Z.k (Kd.R_lower ho0 (below_size (Z.bl HB.out))); have HO464 := Z.k (Kd.N_lower (Kd.N_mono (ok' := fun k_ => some k_ ≠ (v460 : Value).ownBlock ∧ some k_ ≠ (v466 : Value).ownBlock) (Kd.R_N (Kd.R_bound (Kd.R_apart' (Kd.R_apart' ho1 (Kd.R_typed ho0) (by decide)) (Kd.R_typed ho2) (by decide)))) (fun k_ hk_ => ⟨hk_.1.1.2, hk_.1.2⟩)) (below_size (Z.bl HB.out))); have HO467 := Z.k (Kd.R_lower ho2 (below_size (Z.bl HB.out))); replace HB := Z.st (Z.bl HB.out) hb; (try clear hb); (try clear hb2); (try clear hk); (try clear hi); (try clear ho0); (try clear ho1); (try clear ho2)) | ((with_reducible refine gate_dst (N := 3) rfl ?_); refine Z.bx #[.int .i64 0, .slice none 0 0, .slice none 0 0] 28 HB ?_; clear HB; intro gb469 w6 BK469 GE469 HB hg hb; have GW469 := GE469; replace HO461 := Z.rb HO461 hb; replace HO464 := Z.k (Kd.N_below (Kd.N_elderB (by (with_reducible repeat (first | apply Kd.N_alloc | apply Kd.N_drewN | apply Kd.N_drew)); exact HO464.out) gb469 (Nat.le_of_eq hg.symm)) hb); replace HO467 := Z.rb HO467 hb; clear hb hg; have hcz7 := Z.c3 BK469.out; obtain ⟨Ao8, co8, eo8⟩ := Kd.R_slice HO461.out; subst eo8; obtain ⟨Ao9, co9, eo9⟩ := Kd.N_slice HO464.out; subst eo9))
 (try simp only [Act.put, List.setIfInBounds_toArray, List.set_cons_zero, List.set_cons_succ])
 go_cut [33] (fun v33 wc => ∃ (kq : Nat) (x33_3 : Bool), v33 = .bool x33_3 ∧ Aside0 (laws_FnFreeProduct.j0 kq t465 t468 x33_3 t458 t459 t462 = some r) ∧ Aside0 (kq ≤ k) ∧ Aside0 (Kd.R (Kd.int .i64) 3 wc w.heap.size (fun k_ => some k_ ≠ ((.slice Ao8 t459.length co8) : Value).ownBlock) v466 t465) ∧ Aside0 (Kd.R (Kd.int .i64) 3 wc w.heap.size (fun k_ => some k_ ≠ (v466 : Value).ownBlock) (.slice Ao8 t459.length co8) t459) ∧ Aside0 (Kd.N (Kd.slice 37 k37) 34 wc w.heap.size (fun k_ => some k_ ≠ (v466 : Value).ownBlock ∧ some k_ ≠ ((.slice Ao8 t459.length co8) : Value).ownBlock ∧ k_ ≠ gb469) (.slice Ao9 t462.length co9) t462) ∧ Aside0 (wc.heap[gb469]? = some (.cells #[.int .i64 t458, (.slice Ao8 t459.length co8), (.slice Ao9 t462.length co9)] 28 (0, 0))) ∧ Aside0 (Below w.heap.size w wc))
 case first =>
  have H := HC4.out
  clear HC4
  revert H; refine Z.bd ?_; rintro t470 A10 H
  try dsimp only at H
  by_cases c11 : t470 = true
  ·subst c11
   rw [if_pos rfl] at H
   revert H; refine Z.bd ?_; rintro t471 A12 H
   try dsimp only at H
   have H' := Z.k H
   clear H
   have hcz13 := Z.c3 BK469.out
   obtain ⟨Ao14, co14, eo14⟩ := Kd.R_slice HO467.out
   subst eo14
   go_wp2_with (first | ((with_reducible refine gate_callee (f := 16) rfl ?_); refine goesL_ (some 24) rfl rfl Try.func16 (by kernel_rfl) rfl #[.agg #[.int .i64 t458, .slice Ao8 t459.length co8, .slice Ao9 t462.length co9], .slice Ao14 t465.length co14] rfl Z.ar ?_; (with_reducible refine (spec_StateOk.calls k t458 _ _ t459 _ _ t462 _ _ t465 true _ ?q1 ?q2 ?q3 ?q4 ?q5 ?q6 A10.out).mono ?_); (case q1 => refine (Kd.R_reads' (e := 3) (base := w.heap.size) (ok := fun k_ => some k_ ≠ (.slice Ao14 t465.length co14 : Value).ownBlock) (n := t459.length) (c := co8) ?_).2.2; exact (by (with_reducible repeat (first | apply Kd.R_alloc | apply Kd.R_drewN | apply Kd.R_drew)); exact (Kd.R_mono (Kd.R_far (p := ⟨gb469, 2, none⟩) (Kd.R_far (p := ⟨gb469, 1, none⟩) (Kd.R_far (p := ⟨gb469, 0, none⟩) (Kd.R_types HO461.out BK469.out (by decide)) (fun _ hk => hk.2) (.int .i64 t458)) (fun _ hk => hk.2) (.slice Ao8 t459.length co8)) (fun _ hk => hk.2) (.slice Ao9 t462.length co9)) (fun _ h_ => h_.1)))); (case q2 => exact (Kd.R_reads' HO461.out).2.1); (case q3 => refine (Kd.N_reads' (e := 34) (base := w.heap.size) (ok := fun k_ => ((some k_ ≠ (.slice Ao8 t459.length co8 : Value).ownBlock ∧ some k_ ≠ (.slice Ao14 t465.length co14 : Value).ownBlock) ∧ k_ ≠ gb469)) (n := t462.length) (c := co9) ?_).2.2; exact (by (with_reducible repeat (first | apply Kd.N_alloc | apply Kd.N_drewN | apply Kd.N_drew)); exact (Kd.N_mono (Kd.N_far (p := ⟨gb469, 2, none⟩) (Kd.N_far (p := ⟨gb469, 1, none⟩) (Kd.N_far (p := ⟨gb469, 0, none⟩) (Kd.N_mono HO464.out (fun k_ hk => (⟨hk, hk.2⟩ : _ ∧ k_ ≠ gb469))) (fun _ hk => hk.2) (.int .i64 t458)) (fun _ hk => hk.2) (.slice Ao8 t459.length co8)) (fun _ hk => hk.2) (.slice Ao9 t462.length co9)) (fun _ h_ => h_.1)))); (case q4 => exact (Kd.N_reads' HO464.out).2.1); (case q5 => refine (Kd.R_reads' (e := 3) (base := w.heap.size) (ok := fun k_ => some k_ ≠ (.slice Ao8 t459.length co8 : Value).ownBlock) (n := t465.length) (c := co14) ?_).2.2; exact (by (with_reducible repeat (first | apply Kd.R_alloc | apply Kd.R_drewN | apply Kd.R_drew)); exact (Kd.R_mono (Kd.R_far (p := ⟨gb469, 2, none⟩) (Kd.R_far (p := ⟨gb469, 1, none⟩) (Kd.R_far (p := ⟨gb469, 0, none⟩) (Kd.R_types HO467.out BK469.out (by decide)) (fun _ hk => hk.2) (.int .i64 t458)) (fun _ hk => hk.2) (.slice Ao8 t459.length co8)) (fun _ hk => hk.2) (.slice Ao9 t462.length co9)) (fun _ h_ => h_.1)))); (case q6 => exact (Kd.R_reads' HO467.out).2.1); rintro e w15 ⟨rfl, hb⟩; refine ⟨_, rfl, ?_⟩; replace HO461 := Z.k (Kd.R_below (by (with_reducible repeat (first | apply Kd.R_alloc | apply Kd.R_drewN | apply Kd.R_drew)); exact (Kd.R_mono (Kd.R_far (p := ⟨gb469, 2, none⟩) (Kd.R_far (p := ⟨gb469, 1, none⟩) (Kd.R_far (p := ⟨gb469, 0, none⟩) (Kd.R_types HO461.out BK469.out (by decide)) (fun _ hk => hk.2) (.int .i64 t458)) (fun _ hk => hk.2) (.slice Ao8 t459.length co8)) (fun _ hk => hk.2) (.slice Ao9 t462.length co9)) (fun _ h_ => h_.1))) hb); replace HO464 := Z.k (Kd.N_below (by (with_reducible repeat (first | apply Kd.N_alloc | apply Kd.N_drewN | apply Kd.N_drew)); exact (Kd.N_mono (Kd.N_far (p := ⟨gb469, 2, none⟩) (Kd.N_far (p := ⟨gb469, 1, none⟩) (Kd.N_far (p := ⟨gb469, 0, none⟩) (Kd.N_mono HO464.out (fun k_ hk => (⟨hk, hk.2⟩ : _ ∧ k_ ≠ gb469))) (fun _ hk => hk.2) (.int .i64 t458)) (fun _ hk => hk.2) (.slice Ao8 t459.length co8)) (fun _ hk => hk.2) (.slice Ao9 t462.length co9)) (fun _ h_ => h_.1))) hb); replace HO467 := Z.k (Kd.R_below (by (with_reducible repeat (first | apply Kd.R_alloc | apply Kd.R_drewN | apply Kd.R_drew)); exact (Kd.R_mono (Kd.R_far (p := ⟨gb469, 2, none⟩) (Kd.R_far (p := ⟨gb469, 1, none⟩) (Kd.R_far (p := ⟨gb469, 0, none⟩) (Kd.R_types HO467.out BK469.out (by decide)) (fun _ hk => hk.2) (.int .i64 t458)) (fun _ hk => hk.2) (.slice Ao8 t459.length co8)) (fun _ hk => hk.2) (.slice Ao9 t462.length co9)) (fun _ h_ => h_.1))) hb); replace BK469 := Z.k (blk_below (g := gb469) (o := .cells #[.int .i64 t458, .slice Ao8 t459.length co8, .slice Ao9 t462.length co9] 28 (0, 0)) (by (with_reducible repeat (first | refine blk_drewN ?_ _ | refine blk_drew ?_ | refine blk_alloc ?_ _)); refine blk_put (cs := #[.int .i64 t458, .slice Ao8 t459.length co8, .slice none 0 0]) ?_ 2 _ rfl; (with_reducible repeat (first | refine blk_drewN ?_ _ | refine blk_drew ?_ | refine blk_alloc ?_ _)); refine blk_put (cs := #[.int .i64 t458, .slice none 0 0, .slice none 0 0]) ?_ 1 _ rfl; (with_reducible repeat (first | refine blk_drewN ?_ _ | refine blk_drew ?_ | refine blk_alloc ?_ _)); refine blk_put (cs := #[.int .i64 0, .slice none 0 0, .slice none 0 0]) ?_ 0 _ rfl; (with_reducible repeat (first | refine blk_drewN ?_ _ | refine blk_drew ?_ | refine blk_alloc ?_ _)); exact BK469.out) hb); replace HB := Z.st (Z.bs HB.out GE469.out) hb; (try clear hb); (try clear hb2); (try clear hk); (try clear hi); have hcz16 := Z.c3 BK469.out) | (go_at_call 17; (with_reducible refine (spec_CrowdOk.calls t458 t468 t471 _ A12.out).mono ?_); rintro e w' ⟨rfl, ⟨nd, rfl⟩⟩))
   go_meet
   case rel => exact ⟨_, (!t471), (by first | rfl | (simp; done) | (simp [*]; done)), H', ⟨by first | omega | exact Nat.le_refl _⟩, ⟨by (with_reducible repeat (first | apply Kd.R_alloc | apply Kd.R_drewN | apply Kd.R_drew)); exact HO467.out⟩, ⟨by (with_reducible repeat (first | apply Kd.R_alloc | apply Kd.R_drewN | apply Kd.R_drew)); exact HO461.out⟩, ⟨by (with_reducible repeat (first | apply Kd.N_alloc | apply Kd.N_drewN | apply Kd.N_drew)); exact Kd.N_mono HO464.out (fun _ hk => ⟨hk.1.2, ⟨hk.1.1, hk.2⟩⟩)⟩, ⟨by (with_reducible repeat (first | refine blk_drewN ?_ _ | refine blk_drew ?_ | refine blk_alloc ?_ _)); exact BK469.out⟩, ⟨Z.bs HB.out GE469.out⟩⟩
  replace c11 := Bool.eq_false_iff.mpr c11
  subst c11
  rw [if_neg (show ¬ (false = true) by decide)] at H
  have H' := Z.k H
  clear H
  have hcz17 := Z.c3 BK469.out
  obtain ⟨Ao18, co18, eo18⟩ := Kd.R_slice HO467.out
  subst eo18
  go_wp2_with (first | ((with_reducible refine gate_callee (f := 16) rfl ?_); refine goesL_ (some 24) rfl rfl Try.func16 (by kernel_rfl) rfl #[.agg #[.int .i64 t458, .slice Ao8 t459.length co8, .slice Ao9 t462.length co9], .slice Ao18 t465.length co18] rfl Z.ar ?_; (with_reducible refine (spec_StateOk.calls k t458 _ _ t459 _ _ t462 _ _ t465 false _ ?q1 ?q2 ?q3 ?q4 ?q5 ?q6 A10.out).mono ?_); (case q1 => refine (Kd.R_reads' (e := 3) (base := w.heap.size) (ok := fun k_ => some k_ ≠ (.slice Ao18 t465.length co18 : Value).ownBlock) (n := t459.length) (c := co8) ?_).2.2; exact (by (with_reducible repeat (first | apply Kd.R_alloc | apply Kd.R_drewN | apply Kd.R_drew)); exact (Kd.R_mono (Kd.R_far (p := ⟨gb469, 2, none⟩) (Kd.R_far (p := ⟨gb469, 1, none⟩) (Kd.R_far (p := ⟨gb469, 0, none⟩) (Kd.R_types HO461.out BK469.out (by decide)) (fun _ hk => hk.2) (.int .i64 t458)) (fun _ hk => hk.2) (.slice Ao8 t459.length co8)) (fun _ hk => hk.2) (.slice Ao9 t462.length co9)) (fun _ h_ => h_.1)))); (case q2 => exact (Kd.R_reads' HO461.out).2.1); (case q3 => refine (Kd.N_reads' (e := 34) (base := w.heap.size) (ok := fun k_ => ((some k_ ≠ (.slice Ao8 t459.length co8 : Value).ownBlock ∧ some k_ ≠ (.slice Ao18 t465.length co18 : Value).ownBlock) ∧ k_ ≠ gb469)) (n := t462.length) (c := co9) ?_).2.2; exact (by (with_reducible repeat (first | apply Kd.N_alloc | apply Kd.N_drewN | apply Kd.N_drew)); exact (Kd.N_mono (Kd.N_far (p := ⟨gb469, 2, none⟩) (Kd.N_far (p := ⟨gb469, 1, none⟩) (Kd.N_far (p := ⟨gb469, 0, none⟩) (Kd.N_mono HO464.out (fun k_ hk => (⟨hk, hk.2⟩ : _ ∧ k_ ≠ gb469))) (fun _ hk => hk.2) (.int .i64 t458)) (fun _ hk => hk.2) (.slice Ao8 t459.length co8)) (fun _ hk => hk.2) (.slice Ao9 t462.length co9)) (fun _ h_ => h_.1)))); (case q4 => exact (Kd.N_reads' HO464.out).2.1); (case q5 => refine (Kd.R_reads' (e := 3) (base := w.heap.size) (ok := fun k_ => some k_ ≠ (.slice Ao8 t459.length co8 : Value).ownBlock) (n := t465.length) (c := co18) ?_).2.2; exact (by (with_reducible repeat (first | apply Kd.R_alloc | apply Kd.R_drewN | apply Kd.R_drew)); exact (Kd.R_mono (Kd.R_far (p := ⟨gb469, 2, none⟩) (Kd.R_far (p := ⟨gb469, 1, none⟩) (Kd.R_far (p := ⟨gb469, 0, none⟩) (Kd.R_types HO467.out BK469.out (by decide)) (fun _ hk => hk.2) (.int .i64 t458)) (fun _ hk => hk.2) (.slice Ao8 t459.length co8)) (fun _ hk => hk.2) (.slice Ao9 t462.length co9)) (fun _ h_ => h_.1)))); (case q6 => exact (Kd.R_reads' HO467.out).2.1); rintro e w19 ⟨rfl, hb⟩; refine ⟨_, rfl, ?_⟩; replace HO461 := Z.k (Kd.R_below (by (with_reducible repeat (first | apply Kd.R_alloc | apply Kd.R_drewN | apply Kd.R_drew)); exact (Kd.R_mono (Kd.R_far (p := ⟨gb469, 2, none⟩) (Kd.R_far (p := ⟨gb469, 1, none⟩) (Kd.R_far (p := ⟨gb469, 0, none⟩) (Kd.R_types HO461.out BK469.out (by decide)) (fun _ hk => hk.2) (.int .i64 t458)) (fun _ hk => hk.2) (.slice Ao8 t459.length co8)) (fun _ hk => hk.2) (.slice Ao9 t462.length co9)) (fun _ h_ => h_.1))) hb); replace HO464 := Z.k (Kd.N_below (by (with_reducible repeat (first | apply Kd.N_alloc | apply Kd.N_drewN | apply Kd.N_drew)); exact (Kd.N_mono (Kd.N_far (p := ⟨gb469, 2, none⟩) (Kd.N_far (p := ⟨gb469, 1, none⟩) (Kd.N_far (p := ⟨gb469, 0, none⟩) (Kd.N_mono HO464.out (fun k_ hk => (⟨hk, hk.2⟩ : _ ∧ k_ ≠ gb469))) (fun _ hk => hk.2) (.int .i64 t458)) (fun _ hk => hk.2) (.slice Ao8 t459.length co8)) (fun _ hk => hk.2) (.slice Ao9 t462.length co9)) (fun _ h_ => h_.1))) hb); replace HO467 := Z.k (Kd.R_below (by (with_reducible repeat (first | apply Kd.R_alloc | apply Kd.R_drewN | apply Kd.R_drew)); exact (Kd.R_mono (Kd.R_far (p := ⟨gb469, 2, none⟩) (Kd.R_far (p := ⟨gb469, 1, none⟩) (Kd.R_far (p := ⟨gb469, 0, none⟩) (Kd.R_types HO467.out BK469.out (by decide)) (fun _ hk => hk.2) (.int .i64 t458)) (fun _ hk => hk.2) (.slice Ao8 t459.length co8)) (fun _ hk => hk.2) (.slice Ao9 t462.length co9)) (fun _ h_ => h_.1))) hb); replace BK469 := Z.k (blk_below (g := gb469) (o := .cells #[.int .i64 t458, .slice Ao8 t459.length co8, .slice Ao9 t462.length co9] 28 (0, 0)) (by (with_reducible repeat (first | refine blk_drewN ?_ _ | refine blk_drew ?_ | refine blk_alloc ?_ _)); refine blk_put (cs := #[.int .i64 t458, .slice Ao8 t459.length co8, .slice none 0 0]) ?_ 2 _ rfl; (with_reducible repeat (first | refine blk_drewN ?_ _ | refine blk_drew ?_ | refine blk_alloc ?_ _)); refine blk_put (cs := #[.int .i64 t458, .slice none 0 0, .slice none 0 0]) ?_ 1 _ rfl; (with_reducible repeat (first | refine blk_drewN ?_ _ | refine blk_drew ?_ | refine blk_alloc ?_ _)); refine blk_put (cs := #[.int .i64 0, .slice none 0 0, .slice none 0 0]) ?_ 0 _ rfl; (with_reducible repeat (first | refine blk_drewN ?_ _ | refine blk_drew ?_ | refine blk_alloc ?_ _)); exact BK469.out) hb); replace HB := Z.st (Z.bs HB.out GE469.out) hb; (try clear hb); (try clear hb2); (try clear hk); (try clear hi)))
  go_meet
  case rel => exact ⟨_, (true), (by first | rfl | (simp; done) | (simp [*]; done)), H', ⟨by first | omega | exact Nat.le_refl _⟩, ⟨by (with_reducible repeat (first | apply Kd.R_alloc | apply Kd.R_drewN | apply Kd.R_drew)); exact HO467.out⟩, ⟨by (with_reducible repeat (first | apply Kd.R_alloc | apply Kd.R_drewN | apply Kd.R_drew)); exact HO461.out⟩, ⟨by (with_reducible repeat (first | apply Kd.N_alloc | apply Kd.N_drewN | apply Kd.N_drew)); exact Kd.N_mono HO464.out (fun _ hk => ⟨hk.1.2, ⟨hk.1.1, hk.2⟩⟩)⟩, ⟨by (with_reducible repeat (first | refine blk_drewN ?_ _ | refine blk_drew ?_ | refine blk_alloc ?_ _)); exact BK469.out⟩, ⟨Z.bs HB.out GE469.out⟩⟩
 case rest =>
  clear HC4
  try clear c1
  try clear c2
  try clear c2b0
  try clear c2b1
  try clear p2
  try clear c3
  try clear c11
  try clear c15
  try clear c16
  try clear hcz13_0
  try clear hcz13_1
  try clear hcz13_2
  try clear hcz16_0
  try clear hcz16_1
  try clear hcz16_2
  try clear hcz17_0
  try clear hcz17_1
  try clear hcz17_2
  try clear hcz7_0
  try clear hcz7_1
  try clear hcz7_2
  try clear hfz13_0
  try clear hfz13_1
  try clear hfz13_2
  try clear hfz16_0
  try clear hfz16_1
  try clear hfz16_2
  try clear hfz17_0
  try clear hfz17_1
  try clear hfz17_2
  try clear hfz7_0
  try clear hfz7_1
  try clear hfz7_2
  obtain ⟨kq, x33_3, rfl, HA, HJ3, HO_4, HO_109, HO_107, BK469, HB⟩ := hcut
  cases kq with
  | zero => exact absurd HA.out (by simp [laws_FnFreeProduct.j0])
  | succ kj3 =>
   have H := HA.out
   clear HA
   simp only [laws_FnFreeProduct.j0] at H
   by_cases c20 : x33_3 = true
   ·subst c20
    rw [if_pos rfl] at H
    revert H; refine Z.bd ?_; rintro t472 A21 H
    try dsimp only at H
    obtain rfl := Option.some.inj H
    go_wp2_with (first | ((with_reducible refine gate_callee (f := 18) rfl ?_); refine goesL_ (some 34) rfl rfl Try.func18 (by kernel_rfl) rfl #[] rfl Z.ar ?_; (with_reducible refine (laws_alive.calls  t472 _ A21.out).mono ?_); rintro e w' ⟨rfl, ⟨nd, rfl⟩⟩; refine ⟨_, rfl, ?_⟩))
    go_ret
    exact ⟨by first | rfl | (simp [errW_none, errW_some] <;> rfl) | (simp [*, errW_none, errW_some] <;> rfl), Z.bs HB.out GE469.out⟩
   replace c20 := Bool.eq_false_iff.mpr c20
   subst c20
   rw [if_neg (show ¬ (false = true) by decide)] at H
   have H' := Z.k H
   clear H
   have hcz22 := Z.c3 BK469.out
   go_wp2_with (first | ((with_reducible refine gate_dst (N := 6) rfl ?_); (try (refine gate_guard (by rfl) ?_; dsimp only)); refine Z.bz #[.int .i64 0, .slice none 0 0, .slice none 0 0] 28 HB GE469 ?_; clear HB; intro gb473 w23 BK473 GE473 HB hg hb; have GW473 := GE473; replace HO_4 := Z.rb HO_4 hb; replace HO_109 := Z.rb HO_109 hb; replace HO_107 := Z.k (Kd.N_below (Kd.N_elderB (by (with_reducible repeat (first | apply Kd.N_alloc | apply Kd.N_drewN | apply Kd.N_drew)); exact HO_107.out) gb473 (Nat.le_of_eq hg.symm)) hb); have NB469_473 := Z.nl hg BK469; have NB473_469 := Z.ng hg BK469; replace BK469 := Z.bb BK469 hb; clear hb hg; have hnb24 := NB473_469.out; have hnc24 := NB469_473.out; have hcz25 := Z.c3 BK473.out))
   go_loopg [7] kj3 (fun kq v7 w' => ∃ (x7_2 : Int) (x103_2 : List (List (S37))) (u103 : Value), v7 = .int .i64 x7_2 ∧ Aside0 (laws_FnFreeProduct.l0 kq t465 t468 x7_2 t458 t459 t462 t458 t459 x103_2 = some r) ∧ Aside0 (kq ≤ kj3) ∧ Aside0 (Kd.R (Kd.int .i64) 3 w' w.heap.size (fun k_ => some k_ ≠ ((.slice Ao8 t459.length co8) : Value).ownBlock ∧ some k_ ≠ ((.slice Ao8 t459.length co8) : Value).ownBlock) v466 t465) ∧ Aside0 (Kd.R (Kd.int .i64) 3 w' w.heap.size (fun k_ => some k_ ≠ (v466 : Value).ownBlock) (.slice Ao8 t459.length co8) t459) ∧ Aside0 (Kd.N (Kd.slice 37 k37) 34 w' w.heap.size (fun k_ => some k_ ≠ (v466 : Value).ownBlock ∧ some k_ ≠ ((.slice Ao8 t459.length co8) : Value).ownBlock ∧ some k_ ≠ ((.slice Ao8 t459.length co8) : Value).ownBlock ∧ some k_ ≠ (u103 : Value).ownBlock ∧ k_ ≠ gb469 ∧ k_ ≠ gb473) (.slice Ao9 t462.length co9) t462) ∧ Aside0 (Kd.R (Kd.int .i64) 3 w' w.heap.size (fun k_ => some k_ ≠ (v466 : Value).ownBlock) (.slice Ao8 t459.length co8) t459) ∧ Aside0 (Kd.N (Kd.slice 37 k37) 34 w' w.heap.size (fun k_ => some k_ ≠ (v466 : Value).ownBlock ∧ some k_ ≠ ((.slice Ao8 t459.length co8) : Value).ownBlock ∧ some k_ ≠ ((.slice Ao9 t462.length co9) : Value).ownBlock ∧ some k_ ≠ ((.slice Ao8 t459.length co8) : Value).ownBlock ∧ k_ ≠ gb469 ∧ k_ ≠ gb473) u103 x103_2) ∧ Aside0 (w'.heap[gb469]? = some (.cells #[.int .i64 t458, (.slice Ao8 t459.length co8), (.slice Ao9 t462.length co9)] 28 (0, 0))) ∧ Aside0 (w'.heap[gb473]? = some (.cells #[.int .i64 t458, (.slice Ao8 t459.length co8), u103] 28 (0, 0))) ∧ Aside0 (Below w.heap.size w w'))
   case atStart => exact ⟨(0), (([] : List (List (S37)))), (.slice none 0 0), (by first | rfl | (simp; done) | (simp [*]; done)), H', ⟨Nat.le_refl _⟩, ⟨by (with_reducible repeat (first | apply Kd.R_alloc | apply Kd.R_drewN | apply Kd.R_drew)); exact Kd.R_mono (Kd.R_far (p := ⟨gb473, 2, none⟩) (Kd.R_far (p := ⟨gb473, 1, none⟩) (Kd.R_far (p := ⟨gb473, 0, none⟩) (Kd.R_types HO_4.out BK473.out (by decide)) (fun _ hk => hk.2) (.int .i64 t458)) (fun _ hk => hk.2) (.slice Ao8 t459.length co8)) (fun _ hk => hk.2) (.slice none 0 0)) (fun _ hk => ⟨hk.1, hk.1⟩)⟩, ⟨by (with_reducible repeat (first | apply Kd.R_alloc | apply Kd.R_drewN | apply Kd.R_drew)); exact Kd.R_mono (Kd.R_far (p := ⟨gb473, 2, none⟩) (Kd.R_far (p := ⟨gb473, 1, none⟩) (Kd.R_far (p := ⟨gb473, 0, none⟩) (Kd.R_types HO_109.out BK473.out (by decide)) (fun _ hk => hk.2) (.int .i64 t458)) (fun _ hk => hk.2) (.slice Ao8 t459.length co8)) (fun _ hk => hk.2) (.slice none 0 0)) (fun _ hk => hk.1)⟩, ⟨by (with_reducible repeat (first | apply Kd.N_alloc | apply Kd.N_drewN | apply Kd.N_drew)); exact Kd.N_mono (Kd.N_far (p := ⟨gb473, 2, none⟩) (Kd.N_far (p := ⟨gb473, 1, none⟩) (Kd.N_far (p := ⟨gb473, 0, none⟩) (Kd.N_mono HO_107.out (fun k_ hk => (⟨hk, hk.2⟩ : _ ∧ k_ ≠ gb473))) (fun _ hk => hk.2) (.int .i64 t458)) (fun _ hk => hk.2) (.slice Ao8 t459.length co8)) (fun _ hk => hk.2) (.slice none 0 0)) (fun _ hk => ⟨hk.1.1.1, ⟨hk.1.1.2.1, ⟨hk.1.1.2.1, ⟨(by simp [Value.ownBlock]), ⟨hk.1.1.2.2, hk.1.2⟩⟩⟩⟩⟩)⟩, ⟨by (with_reducible repeat (first | apply Kd.R_alloc | apply Kd.R_drewN | apply Kd.R_drew)); exact Kd.R_mono (Kd.R_far (p := ⟨gb473, 2, none⟩) (Kd.R_far (p := ⟨gb473, 1, none⟩) (Kd.R_far (p := ⟨gb473, 0, none⟩) (Kd.R_types HO_109.out BK473.out (by decide)) (fun _ hk => hk.2) (.int .i64 t458)) (fun _ hk => hk.2) (.slice Ao8 t459.length co8)) (fun _ hk => hk.2) (.slice none 0 0)) (fun _ hk => hk.1)⟩, ⟨by first | exact Kd.R_nil _ _ _ _ _ | exact Kd.N_nil _ _ _ _ _ | exact Kd.V_nil _ _ _ _ _ | exact Kd.Q_nil _ _ _ _ _ | exact Kd.S_nil _ _ _ _ _⟩, ⟨by (with_reducible repeat (first | refine blk_drewN ?_ _ | refine blk_drew ?_ | refine blk_alloc ?_ _)); refine blk_far ?_ NB469_473.out _; (with_reducible repeat (first | refine blk_drewN ?_ _ | refine blk_drew ?_ | refine blk_alloc ?_ _)); refine blk_far ?_ NB469_473.out _; (with_reducible repeat (first | refine blk_drewN ?_ _ | refine blk_drew ?_ | refine blk_alloc ?_ _)); refine blk_far ?_ NB469_473.out _; (with_reducible repeat (first | refine blk_drewN ?_ _ | refine blk_drew ?_ | refine blk_alloc ?_ _)); exact BK469.out⟩, ⟨by (with_reducible repeat (first | refine blk_drewN ?_ _ | refine blk_drew ?_ | refine blk_alloc ?_ _)); refine blk_put (cs := #[.int .i64 t458, .slice Ao8 t459.length co8, .slice none 0 0]) ?_ 2 _ rfl; (with_reducible repeat (first | refine blk_drewN ?_ _ | refine blk_drew ?_ | refine blk_alloc ?_ _)); refine blk_put (cs := #[.int .i64 t458, .slice none 0 0, .slice none 0 0]) ?_ 1 _ rfl; (with_reducible repeat (first | refine blk_drewN ?_ _ | refine blk_drew ?_ | refine blk_alloc ?_ _)); refine blk_put (cs := #[.int .i64 0, .slice none 0 0, .slice none 0 0]) ?_ 0 _ rfl; (with_reducible repeat (first | refine blk_drewN ?_ _ | refine blk_drew ?_ | refine blk_alloc ?_ _)); exact BK473.out⟩, ⟨by repeat (first | (with_reducible first | exact HB.out | apply below_alloc | apply pw_below_drewN | apply below_drew1 | refine below_set ?_ GE469.out | refine below_set ?_ GE473.out) | exact HB.out)⟩⟩
   clear H'
   try clear c1
   try clear c2
   try clear c2b0
   try clear c2b1
   try clear p2
   try clear c3
   try clear c11
   try clear c15
   try clear c16
   try clear c18
   try clear c20
   try clear c24
   try clear hcz13_0
   try clear hcz13_1
   try clear hcz13_2
   try clear hcz16_0
   try clear hcz16_1
   try clear hcz16_2
   try clear hcz17_0
   try clear hcz17_1
   try clear hcz17_2
   try clear hcz22_0
   try clear hcz22_1
   try clear hcz22_2
   try clear hcz25_0
   try clear hcz25_1
   try clear hcz25_2
   try clear hcz7_0
   try clear hcz7_1
   try clear hcz7_2
   try clear hfz13_0
   try clear hfz13_1
   try clear hfz13_2
   try clear hfz16_0
   try clear hfz16_1
   try clear hfz16_2
   try clear hfz17_0
   try clear hfz17_1
   try clear hfz17_2
   try clear hfz22_0
   try clear hfz22_1
   try clear hfz22_2
   try clear hfz25_0
   try clear hfz25_1
   try clear hfz25_2
   try clear hfz7_0
   try clear hfz7_1
   try clear hfz7_2
   try clear p2
   obtain ⟨x7_2, x103_2, u103, rfl, HA, HK2, HO_4, HO_109, HO_107, HO_113, HO_103, BK469, BK473, HB⟩ := hrel
   cases gk with
   | zero => exact absurd HA.out (by simp [laws_FnFreeProduct.l0])
   | succ k2 =>
    have H := HA.out
    clear HA
    simp only [laws_FnFreeProduct.l0] at H
    revert H; refine Z.fc ?_ ?_ <;> intro c26b0 H
    ·obtain ⟨y474, hy474⟩ : ∃ y_ : List (S37), y_ = (([] : List (S37))) := ⟨_, rfl⟩
     replace H : (laws_FnFreeProduct.l1 k2 t465 t468 x7_2 y474 0 t458 t459 t462 t458 t459 x103_2) = some r := by first | (rw [hy474]; with_reducible exact H) | (have H2_ := (Option.bind_some _ _).symm.trans H; rw [hy474]; with_reducible exact H2_) | (have H2_ := (Option.bind_some _ _).symm.trans H; with_reducible exact H2_) | with_reducible exact H | (rw [hy474]; exact H) | exact H
     have Ny474 := Z.k hy474
     clear hy474
     have H' := Z.k H
     clear H
     have hnb27 := NB469_473.out
     have hnc27 := NB473_469.out
     have hcz28 := Z.c3 BK469.out
     go_wp2_with (first | ((with_reducible refine gate_dst (N := 45) rfl ?_); (try (refine gate_guard (by rfl) ?_; dsimp only)); refine Kd.N_lit k37 _ 37 ?hg (N' := 45) ?hd (xs := ([] : List (S37))) (inner := []) (ok := (fun k_ => some k_ ≠ (v466 : Value).ownBlock ∧ some k_ ≠ (.slice Ao8 t459.length co8 : Value).ownBlock ∧ some k_ ≠ (.slice Ao9 t462.length co9 : Value).ownBlock ∧ some k_ ≠ (.slice Ao8 t459.length co8 : Value).ownBlock ∧ some k_ ≠ (u103 : Value).ownBlock ∧ k_ ≠ gb469 ∧ k_ ≠ gb473)) (okp := (fun k_ => some k_ ≠ (v466 : Value).ownBlock ∧ some k_ ≠ (.slice Ao8 t459.length co8 : Value).ownBlock ∧ some k_ ≠ (.slice Ao9 t462.length co9 : Value).ownBlock ∧ some k_ ≠ (.slice Ao8 t459.length co8 : Value).ownBlock ∧ some k_ ≠ (u103 : Value).ownBlock ∧ k_ ≠ gb469 ∧ k_ ≠ gb473)) ?hr ?hp (fun _ hk => hk) ((show ∀ k_, wr.heap.size ≤ k_ → (fun k_ => some k_ ≠ (v466 : Value).ownBlock ∧ some k_ ≠ (.slice Ao8 t459.length co8 : Value).ownBlock ∧ some k_ ≠ (.slice Ao9 t462.length co9 : Value).ownBlock ∧ some k_ ≠ (.slice Ao8 t459.length co8 : Value).ownBlock ∧ some k_ ≠ (u103 : Value).ownBlock ∧ k_ ≠ gb469 ∧ k_ ≠ gb473) k_ from fun k_ hk => ⟨Kd.fresh' (Kd.R_lt (by (with_reducible repeat (first | apply Kd.R_alloc | apply Kd.R_drewN | apply Kd.R_drew)); exact HO_4.out)) k_ hk, Kd.fresh' (Kd.R_lt (by (with_reducible repeat (first | apply Kd.R_alloc | apply Kd.R_drewN | apply Kd.R_drew)); exact HO_109.out)) k_ hk, Kd.fresh' (Kd.N_lt (by (with_reducible repeat (first | apply Kd.N_alloc | apply Kd.N_drewN | apply Kd.N_drew)); exact HO_107.out)) k_ hk, Kd.fresh' (Kd.R_lt (by (with_reducible repeat (first | apply Kd.R_alloc | apply Kd.R_drewN | apply Kd.R_drew)); exact HO_113.out)) k_ hk, Kd.fresh' (Kd.N_lt (by (with_reducible repeat (first | apply Kd.N_alloc | apply Kd.N_drewN | apply Kd.N_drew)); exact HO_103.out)) k_ hk, Kd.freshB (g := gb469) (o := .cells #[.int .i64 t458, .slice Ao8 t459.length co8, .slice Ao9 t462.length co9] 28 (0, 0)) (Z.bk BK469.out) k_ hk, Kd.freshB (g := gb473) (o := .cells #[.int .i64 t458, .slice Ao8 t459.length co8, u103] 28 (0, 0)) (Z.bk BK473.out) k_ hk⟩) _ (Nat.le_refl _)) (Below.refl _ _) (Nat.le_refl _) (by simp) ?_; (case hd | hg => rfl); (case hr => first | (go_simp; done) | (go_simp; rfl)); (case hp => exact (Reps.none _ _)); intro v475 w29 ho30 hb hg_ hnew_; clear hg_ hnew_; (first | rw [← Ny474.out] at ho30 | (simp only [Int.reduceToNat] at ho30; rw [← Ny474.out] at ho30)); replace HO_4 := Z.rb HO_4 hb; replace HO_109 := Z.rb HO_109 hb; replace HO_107 := Z.k (Kd.N_elder' (by (with_reducible repeat (first | apply Kd.N_alloc | apply Kd.N_drewN | apply Kd.N_drew)); exact HO_107.out) (Kd.N_base ho30) hb); replace HO_113 := Z.rb HO_113 hb; replace HO_103 := Z.k (Kd.N_elder' (by (with_reducible repeat (first | apply Kd.N_alloc | apply Kd.N_drewN | apply Kd.N_drew)); exact HO_103.out) (Kd.N_base ho30) hb); have HO476 := Z.k (Kd.N_lower ho30 (below_size (by repeat (first | (with_reducible first | exact HB.out | apply below_alloc | apply pw_below_drewN | apply below_drew1 | refine below_set ?_ GE469.out | refine below_set ?_ GE473.out) | exact HB.out)))); replace BK469 := Z.bb BK469 hb; replace BK473 := Z.bb BK473 hb; replace HB := Z.k (below_step (by repeat (first | (with_reducible first | exact HB.out | apply below_alloc | apply pw_below_drewN | apply below_drew1 | refine below_set ?_ GE469.out | refine below_set ?_ GE473.out) | exact HB.out)) hb); clear hb ho30))
     go_loopg [8, 9] k2 (fun kq v8 v9 w' => ∃ (x8_3 : List (S37)) (x9_3 : Int), v9 = .int .i64 x9_3 ∧ Aside0 (laws_FnFreeProduct.l1 kq t465 t468 x7_2 x8_3 x9_3 t458 t459 t462 t458 t459 x103_2 = some r) ∧ Aside0 (kq ≤ k2) ∧ Aside0 (Kd.R (Kd.int .i64) 3 w' w.heap.size (fun k_ => some k_ ≠ ((.slice Ao8 t459.length co8) : Value).ownBlock ∧ some k_ ≠ ((.slice Ao8 t459.length co8) : Value).ownBlock) v466 t465) ∧ Aside0 (Kd.N k37 37 w' w.heap.size (fun k_ => some k_ ≠ (v466 : Value).ownBlock ∧ some k_ ≠ ((.slice Ao8 t459.length co8) : Value).ownBlock ∧ some k_ ≠ ((.slice Ao9 t462.length co9) : Value).ownBlock ∧ some k_ ≠ ((.slice Ao8 t459.length co8) : Value).ownBlock ∧ some k_ ≠ (u103 : Value).ownBlock ∧ k_ ≠ gb469 ∧ k_ ≠ gb473) v8 x8_3) ∧ Aside0 (Kd.R (Kd.int .i64) 3 w' w.heap.size (fun k_ => some k_ ≠ (v466 : Value).ownBlock) (.slice Ao8 t459.length co8) t459) ∧ Aside0 (Kd.N (Kd.slice 37 k37) 34 w' w.heap.size (fun k_ => some k_ ≠ (v466 : Value).ownBlock ∧ some k_ ≠ (v8 : Value).ownBlock ∧ some k_ ≠ ((.slice Ao8 t459.length co8) : Value).ownBlock ∧ some k_ ≠ ((.slice Ao8 t459.length co8) : Value).ownBlock ∧ some k_ ≠ (u103 : Value).ownBlock ∧ k_ ≠ gb469 ∧ k_ ≠ gb473) (.slice Ao9 t462.length co9) t462) ∧ Aside0 (Kd.R (Kd.int .i64) 3 w' w.heap.size (fun k_ => some k_ ≠ (v466 : Value).ownBlock) (.slice Ao8 t459.length co8) t459) ∧ Aside0 (Kd.N (Kd.slice 37 k37) 34 w' w.heap.size (fun k_ => some k_ ≠ (v466 : Value).ownBlock ∧ some k_ ≠ (v8 : Value).ownBlock ∧ some k_ ≠ ((.slice Ao8 t459.length co8) : Value).ownBlock ∧ some k_ ≠ ((.slice Ao9 t462.length co9) : Value).ownBlock ∧ some k_ ≠ ((.slice Ao8 t459.length co8) : Value).ownBlock ∧ k_ ≠ gb469 ∧ k_ ≠ gb473) u103 x103_2) ∧ Aside0 (w'.heap[gb469]? = some (.cells #[.int .i64 t458, (.slice Ao8 t459.length co8), (.slice Ao9 t462.length co9)] 28 (0, 0))) ∧ Aside0 (w'.heap[gb473]? = some (.cells #[.int .i64 t458, (.slice Ao8 t459.length co8), u103] 28 (0, 0))) ∧ Aside0 (Below w.heap.size w w'))
     case atStart => exact ⟨(y474), (0), (by first | rfl | (simp; done) | (simp [*]; done)), H', ⟨Nat.le_refl _⟩, ⟨by (with_reducible repeat (first | apply Kd.R_alloc | apply Kd.R_drewN | apply Kd.R_drew)); exact HO_4.out⟩, ⟨by (with_reducible repeat (first | apply Kd.N_alloc | apply Kd.N_drewN | apply Kd.N_drew)); exact HO476.out⟩, ⟨by (with_reducible repeat (first | apply Kd.R_alloc | apply Kd.R_drewN | apply Kd.R_drew)); exact HO_109.out⟩, ⟨by (with_reducible repeat (first | apply Kd.N_alloc | apply Kd.N_drewN | apply Kd.N_drew)); exact Kd.N_mono HO_107.out (fun _ hk => ⟨hk.1.1, ⟨hk.2, ⟨hk.1.2.1, ⟨hk.1.2.2.1, ⟨hk.1.2.2.2.1, ⟨hk.1.2.2.2.2.1, hk.1.2.2.2.2.2⟩⟩⟩⟩⟩⟩)⟩, ⟨by (with_reducible repeat (first | apply Kd.R_alloc | apply Kd.R_drewN | apply Kd.R_drew)); exact HO_113.out⟩, ⟨by (with_reducible repeat (first | apply Kd.N_alloc | apply Kd.N_drewN | apply Kd.N_drew)); exact Kd.N_mono HO_103.out (fun _ hk => ⟨hk.1.1, ⟨hk.2, ⟨hk.1.2.1, ⟨hk.1.2.2.1, ⟨hk.1.2.2.2.1, ⟨hk.1.2.2.2.2.1, hk.1.2.2.2.2.2⟩⟩⟩⟩⟩⟩)⟩, ⟨by (with_reducible repeat (first | refine blk_drewN ?_ _ | refine blk_drew ?_ | refine blk_alloc ?_ _)); exact BK469.out⟩, ⟨by (with_reducible repeat (first | refine blk_drewN ?_ _ | refine blk_drew ?_ | refine blk_alloc ?_ _)); exact BK473.out⟩, ⟨by repeat (first | (with_reducible first | exact HB.out | apply below_alloc | apply pw_below_drewN | apply below_drew1 | refine below_set ?_ GE469.out | refine below_set ?_ GE473.out) | exact HB.out)⟩⟩
     clear H'
     try clear c1
     try clear c2
     try clear c2b0
     try clear c2b1
     try clear p2
     try clear c3
     try clear c11
     try clear c15
     try clear c16
     try clear c18
     try clear c20
     try clear c24
     try clear c26
     try clear c26b0
     try clear c27
     try clear hcz13_0
     try clear hcz13_1
     try clear hcz13_2
     try clear hcz16_0
     try clear hcz16_1
     try clear hcz16_2
     try clear hcz17_0
     try clear hcz17_1
     try clear hcz17_2
     try clear hcz22_0
     try clear hcz22_1
     try clear hcz22_2
     try clear hcz25_0
     try clear hcz25_1
     try clear hcz25_2
     try clear hcz28_0
     try clear hcz28_1
     try clear hcz28_2
     try clear hcz7_0
     try clear hcz7_1
     try clear hcz7_2
     try clear hfz13_0
     try clear hfz13_1
     try clear hfz13_2
     try clear hfz16_0
     try clear hfz16_1
     try clear hfz16_2
     try clear hfz17_0
     try clear hfz17_1
     try clear hfz17_2
     try clear hfz22_0
     try clear hfz22_1
     try clear hfz22_2
     try clear hfz25_0
     try clear hfz25_1
     try clear hfz25_2
     try clear hfz28_0
     try clear hfz28_1
     try clear hfz28_2
     try clear hfz7_0
     try clear hfz7_1
     try clear hfz7_2
     try clear p2
     obtain ⟨x8_3, x9_3, rfl, HA, HK3, HO_4, HO_8, HO_109, HO_107, HO_113, HO_103, BK469, BK473, HB⟩ := hrel
     cases gk with
     | zero => exact absurd HA.out (by simp [laws_FnFreeProduct.l1])
     | succ k3 =>
      have H := HA.out
      clear HA
      simp only [laws_FnFreeProduct.l1] at H
      obtain ⟨c31b0, H⟩ := Z.fd H
      obtain ⟨c32b0, H⟩ := Z.fd H
      revert H; refine Z.fm ?_ ?_ <;> intro c33b0 H
      ·obtain ⟨c39, H⟩ := Z.ifp H
       have LMc39 := Z.k c39
       clear c39
       obtain ⟨y483, hy483⟩ : ∃ y_ : List (List (S37)), y_ = (x103_2 ++ [x8_3]) := ⟨_, rfl⟩
       replace H : (laws_FnFreeProduct.l0 k3 t465 t468 (wrap64 (x7_2 + 1)) t458 t459 t462 t458 t459 y483) = some r := by first | (rw [hy483]; with_reducible exact H) | (have H2_ := (Option.bind_some _ _).symm.trans H; rw [hy483]; with_reducible exact H2_) | (have H2_ := (Option.bind_some _ _).symm.trans H; with_reducible exact H2_) | with_reducible exact H | (rw [hy483]; exact H) | exact H
       have Ny483 := Z.k hy483
       clear hy483
       have H' := Z.k H
       clear H
       have hnb40 := NB469_473.out
       have hnc40 := NB473_469.out
       have hcz41 := Z.c3 BK469.out
       have p477 : 0 ≤ (x7_2 : Int) := Z.od
       have q477 : x7_2 < (t462.length : Int) := Z.od
       obtain ⟨ad477, A477_0, c477_0, e477, hx477_0, hl477_0, hi477_0⟩ := at_L5 (Kd.N_reads' HO_107.out).2.2 x7_2 p477 q477
       cases e477
       obtain ⟨ce477, hce477, hMe477, hcc477⟩ := Kd.N_get HO_107.out [] x7_2 p477 (by first | exact q477 | exact Z.od | (have e_ := (Kd.N_reads' HO_107.out).1; omega))
       obtain ⟨ua477_0, uc477_0, rfl, ul477_0, ge477_0⟩ := Kd.FK_slice_open hMe477
       have hv477_0 := hcc477 0 _ rfl
       rw [Nat.add_zero, show ((Kd.slice 37 k37)).sz = 1 from rfl, Nat.mul_one] at hv477_0
       replace hv477_0 := Option.some.inj (hv477_0.symm.trans hx477_0)
       injection hv477_0 with hva_ hvn_ hvc_
       rw [hva_] at ge477_0
       rw [hvc_] at ul477_0
       have HL477_0 := Z.k (show Kd.V k37 37 _ w.heap.size _ _ (rd_L5 t462 x7_2) from Kd.V_mk ul477_0 ge477_0)
       clear hva_ hvn_ hvc_ ge477_0 ul477_0
       clear hcc477 hce477
       have HR477_0 := Z.k hi477_0
       have HC477_0 := Z.k hl477_0
       clear hi477_0 hl477_0
       replace p477 := eq_true p477
       replace q477 := eq_true q477
       have hcz42 := Z.c3 BK473.out
       obtain ⟨Ao44, co44, eo44⟩ := Kd.N_slice HO_8.out
       subst eo44
       go_wp2_with (first | ((with_reducible refine gate_builtin (b := .append) (xs := #[.tmp 70, .tmp 72]) rfl ?_); (try (refine gate_guard (by rfl) ?_; dsimp only)); at_builtin; refine Kd.N_append (Kd.slice 37 k37) (w0 := w) w.heap.size rfl (.tmp 70) (.tmp 72) 26 34 (.slice none 0 0) 24 rfl Try.underlying26 info34 rfl (by decide) (by omega) u103 x103_2 x8_3 [.slice Ao44 x8_3.length co44] (fun k_ => some k_ ≠ (v466 : Value).ownBlock ∧ some k_ ≠ (.slice Ao8 t459.length co8 : Value).ownBlock ∧ some k_ ≠ (.slice (some ad477) t462.length co9 : Value).ownBlock ∧ some k_ ≠ (.slice Ao8 t459.length co8 : Value).ownBlock ∧ k_ ≠ gb469 ∧ k_ ≠ gb473) (fun k_ => ((fun k_ => some k_ ≠ (v466 : Value).ownBlock ∧ some k_ ≠ (.slice Ao8 t459.length co8 : Value).ownBlock ∧ some k_ ≠ (.slice (some ad477) t462.length co9 : Value).ownBlock ∧ some k_ ≠ (.slice Ao8 t459.length co8 : Value).ownBlock ∧ k_ ≠ gb469 ∧ k_ ≠ gb473)) k_ ∧ some k_ ≠ (u103 : Value).ownBlock) rfl rfl ?aP (fun _ hk => hk) ?aF ?aO ?aB ?aS ?aL ?_; (case aP => exact (Kd.FK_slice_mk (Kd.N_reads' (Kd.N_mono (ok' := (fun k_ => ((fun k_ => some k_ ≠ (v466 : Value).ownBlock ∧ some k_ ≠ (.slice Ao8 t459.length co8 : Value).ownBlock ∧ some k_ ≠ (.slice (some ad477) t462.length co9 : Value).ownBlock ∧ some k_ ≠ (.slice Ao8 t459.length co8 : Value).ownBlock ∧ k_ ≠ gb469 ∧ k_ ≠ gb473)) k_ ∧ some k_ ≠ (u103 : Value).ownBlock)) (HO_8.out) (fun k_ hk => ⟨⟨hk.1, ⟨hk.2.1, ⟨hk.2.2.1, ⟨hk.2.2.2.1, ⟨hk.2.2.2.2.2.1, hk.2.2.2.2.2.2⟩⟩⟩⟩⟩, hk.2.2.2.2.1⟩))).2.1 (Kd.N_F (Kd.N_mono (ok' := (fun k_ => ((fun k_ => some k_ ≠ (v466 : Value).ownBlock ∧ some k_ ≠ (.slice Ao8 t459.length co8 : Value).ownBlock ∧ some k_ ≠ (.slice (some ad477) t462.length co9 : Value).ownBlock ∧ some k_ ≠ (.slice Ao8 t459.length co8 : Value).ownBlock ∧ k_ ≠ gb469 ∧ k_ ≠ gb473)) k_ ∧ some k_ ≠ (u103 : Value).ownBlock)) (HO_8.out) (fun k_ hk => ⟨⟨hk.1, ⟨hk.2.1, ⟨hk.2.2.1, ⟨hk.2.2.2.1, ⟨hk.2.2.2.2.2.1, hk.2.2.2.2.2.2⟩⟩⟩⟩⟩, hk.2.2.2.2.1⟩))))); (case aB => exact (by repeat (first | (with_reducible first | exact HB.out | apply below_alloc | apply pw_below_drewN | apply below_drew1 | refine below_set ?_ GE469.out | refine below_set ?_ GE473.out) | exact HB.out))); (case aF => exact (fun k_ hk => ⟨Kd.fresh' (Kd.R_lt (by (with_reducible repeat (first | apply Kd.R_alloc | apply Kd.R_drewN | apply Kd.R_drew)); exact HO_4.out)) k_ hk, Kd.fresh' (Kd.R_lt (by (with_reducible repeat (first | apply Kd.R_alloc | apply Kd.R_drewN | apply Kd.R_drew)); exact HO_109.out)) k_ hk, Kd.fresh' (Kd.N_lt (by (with_reducible repeat (first | apply Kd.N_alloc | apply Kd.N_drewN | apply Kd.N_drew)); exact HO_107.out)) k_ hk, Kd.fresh' (Kd.R_lt (by (with_reducible repeat (first | apply Kd.R_alloc | apply Kd.R_drewN | apply Kd.R_drew)); exact HO_113.out)) k_ hk, Kd.freshB (g := gb469) (o := .cells #[.int .i64 t458, .slice Ao8 t459.length co8, .slice (some ad477) t462.length co9] 28 (0, 0)) (Z.bk BK469.out) k_ hk, Kd.freshB (g := gb473) (o := .cells #[.int .i64 t458, .slice Ao8 t459.length co8, u103] 28 (0, 0)) (Z.bk BK473.out) k_ hk⟩)); (case aO => exact (by (with_reducible repeat (first | apply Kd.N_alloc | apply Kd.N_drewN | apply Kd.N_drew)); exact Kd.N_mono HO_103.out (fun _ hk => ⟨hk.1, ⟨hk.2.2.1, ⟨hk.2.2.2.1, ⟨hk.2.2.2.2.1, ⟨hk.2.2.2.2.2.1, hk.2.2.2.2.2.2⟩⟩⟩⟩⟩))); (case aS => exact (below_size (by repeat (first | (with_reducible first | exact HB.out | apply below_alloc | apply pw_below_drewN | apply below_drew1 | refine below_set ?_ GE469.out | refine below_set ?_ GE473.out) | exact HB.out)))); (case aL => have := LMc39.out; omega); intro v484 w43 ho hb hg hat; rw [← Ny483.out] at ho; replace HO_4 := Z.k (Kd.R_over' (by (with_reducible repeat (first | apply Kd.R_alloc | apply Kd.R_drewN | apply Kd.R_drew)); exact HO_4.out) (Kd.N_typed (by (with_reducible repeat (first | apply Kd.N_alloc | apply Kd.N_drewN | apply Kd.N_drew)); exact HO_103.out)) (by decide) hg); replace HO_109 := Z.k (Kd.R_over' (by (with_reducible repeat (first | apply Kd.R_alloc | apply Kd.R_drewN | apply Kd.R_drew)); exact HO_109.out) (Kd.N_typed (by (with_reducible repeat (first | apply Kd.N_alloc | apply Kd.N_drewN | apply Kd.N_drew)); exact HO_103.out)) (by decide) hg); replace HO_107 := Z.k (Kd.N_afterv (ok := (fun k_ => some k_ ≠ (v466 : Value).ownBlock ∧ some k_ ≠ (.slice Ao44 x8_3.length co44 : Value).ownBlock ∧ some k_ ≠ (.slice Ao8 t459.length co8 : Value).ownBlock ∧ some k_ ≠ (.slice Ao8 t459.length co8 : Value).ownBlock ∧ k_ ≠ gb469 ∧ k_ ≠ gb473)) (by (with_reducible repeat (first | apply Kd.N_alloc | apply Kd.N_drewN | apply Kd.N_drew)); exact Kd.N_mono HO_107.out (fun _ hk => ⟨⟨hk.1, ⟨hk.2.1, ⟨hk.2.2.1, ⟨hk.2.2.2.1, ⟨hk.2.2.2.2.2.1, hk.2.2.2.2.2.2⟩⟩⟩⟩⟩, hk.2.2.2.2.1⟩)) hg hat); replace HO_113 := Z.k (Kd.R_over' (by (with_reducible repeat (first | apply Kd.R_alloc | apply Kd.R_drewN | apply Kd.R_drew)); exact HO_113.out) (Kd.N_typed (by (with_reducible repeat (first | apply Kd.N_alloc | apply Kd.N_drewN | apply Kd.N_drew)); exact HO_103.out)) (by decide) hg); replace BK469 := Z.k (blk_grown (g := gb469) (o := .cells #[.int .i64 t458, .slice Ao8 t459.length co8, .slice (some ad477) t462.length co9] 28 (0, 0)) (Z.bk BK469.out) hg (Kd.N_ne HO_103.out BK469.out (by decide))); replace BK473 := Z.k (blk_grown (g := gb473) (o := .cells #[.int .i64 t458, .slice Ao8 t459.length co8, u103] 28 (0, 0)) (Z.bk BK473.out) hg (Kd.N_ne HO_103.out BK473.out (by decide))); replace HL477_0 := Z.k (Kd.V_afterv (ok := (fun k_ => some k_ ≠ (v466 : Value).ownBlock ∧ some k_ ≠ (.slice Ao44 x8_3.length co44 : Value).ownBlock ∧ some k_ ≠ (.slice Ao8 t459.length co8 : Value).ownBlock ∧ some k_ ≠ (.slice (some ad477) t462.length co9 : Value).ownBlock ∧ some k_ ≠ (.slice Ao8 t459.length co8 : Value).ownBlock ∧ k_ ≠ gb469 ∧ k_ ≠ gb473)) (by (with_reducible repeat (first | apply Kd.V_alloc | apply Kd.V_drewN | apply Kd.V_drew)); exact Kd.V_mono HL477_0.out (fun _ hk => ⟨⟨hk.1.1, ⟨hk.1.2.1, ⟨hk.1.2.2.1, ⟨hk.2, ⟨hk.1.2.2.2.1, ⟨hk.1.2.2.2.2.2.1, hk.1.2.2.2.2.2.2⟩⟩⟩⟩⟩⟩, hk.1.2.2.2.2.1⟩)) hg hat); replace HB := Z.k (hb); have HO485 := Z.k (ho); clear HO_103 HO_8; clear ho hb hg hat; obtain ⟨Ao45, co45, eo45⟩ := Kd.N_slice HO485.out; subst eo45; have hcz46 := Z.c3 BK473.out))
       go_roundg k3
       case measure => have := HJ3.out; have := HK2.out; have := HK3.out; omega
       case rel => exact ⟨(wrap64 (x7_2 + 1)), (y483), (.slice Ao45 y483.length co45), (by first | rfl | (simp; done) | (simp [*]; done)), H', ⟨by have := HJ3.out; have := HK2.out; have := HK3.out; omega⟩, ⟨by (with_reducible repeat (first | apply Kd.R_alloc | apply Kd.R_drewN | apply Kd.R_drew)); exact Kd.R_mono (Kd.R_far (p := ⟨gb473, 2, none⟩) (Kd.R_types HO_4.out BK473.out (by decide)) (fun _ hk => hk.2) (.slice Ao45 y483.length co45)) (fun _ hk => ⟨hk.1.1, hk.1.2⟩)⟩, ⟨by (with_reducible repeat (first | apply Kd.R_alloc | apply Kd.R_drewN | apply Kd.R_drew)); exact Kd.R_mono (Kd.R_far (p := ⟨gb473, 2, none⟩) (Kd.R_types HO_109.out BK473.out (by decide)) (fun _ hk => hk.2) (.slice Ao45 y483.length co45)) (fun _ hk => hk.1)⟩, ⟨by (with_reducible repeat (first | apply Kd.N_alloc | apply Kd.N_drewN | apply Kd.N_drew)); exact Kd.N_mono (Kd.N_far (p := ⟨gb473, 2, none⟩) (Kd.N_mono HO_107.out (fun k_ hk => (⟨hk, hk.1.2.2.2.2.2⟩ : _ ∧ k_ ≠ gb473))) (fun _ hk => hk.2) (.slice Ao45 y483.length co45)) (fun _ hk => ⟨hk.1.1.1, ⟨hk.1.1.2.2.1, ⟨hk.1.1.2.2.2.1, ⟨hk.1.2, ⟨hk.1.1.2.2.2.2.1, hk.1.1.2.2.2.2.2⟩⟩⟩⟩⟩)⟩, ⟨by (with_reducible repeat (first | apply Kd.R_alloc | apply Kd.R_drewN | apply Kd.R_drew)); exact Kd.R_mono (Kd.R_far (p := ⟨gb473, 2, none⟩) (Kd.R_types HO_113.out BK473.out (by decide)) (fun _ hk => hk.2) (.slice Ao45 y483.length co45)) (fun _ hk => hk.1)⟩, ⟨by (with_reducible repeat (first | apply Kd.N_alloc | apply Kd.N_drewN | apply Kd.N_drew)); exact Kd.N_mono (Kd.N_far (p := ⟨gb473, 2, none⟩) (Kd.N_mono HO485.out (fun k_ hk => (⟨hk, hk.2.2.2.2.2⟩ : _ ∧ k_ ≠ gb473))) (fun _ hk => hk.2) (.slice Ao45 y483.length co45)) (fun _ hk => ⟨hk.1.1, ⟨hk.1.2.1, ⟨hk.1.2.2.1, ⟨hk.1.2.2.2.1, ⟨hk.1.2.2.2.2.1, hk.1.2.2.2.2.2⟩⟩⟩⟩⟩)⟩, ⟨by (with_reducible repeat (first | refine blk_drewN ?_ _ | refine blk_drew ?_ | refine blk_alloc ?_ _)); refine blk_far ?_ NB469_473.out _; (with_reducible repeat (first | refine blk_drewN ?_ _ | refine blk_drew ?_ | refine blk_alloc ?_ _)); exact BK469.out⟩, ⟨by (with_reducible repeat (first | refine blk_drewN ?_ _ | refine blk_drew ?_ | refine blk_alloc ?_ _)); refine blk_put (cs := #[.int .i64 t458, .slice Ao8 t459.length co8, u103]) ?_ 2 _ rfl; (with_reducible repeat (first | refine blk_drewN ?_ _ | refine blk_drew ?_ | refine blk_alloc ?_ _)); exact BK473.out⟩, ⟨by repeat (first | (with_reducible first | exact HB.out | apply below_alloc | apply pw_below_drewN | apply below_drew1 | refine below_set ?_ GE469.out | refine below_set ?_ GE473.out) | exact HB.out)⟩⟩
      obtain ⟨c34b0, H⟩ := Z.fd H
      obtain ⟨c35, H⟩ := Z.ifp H
      have LMc35 := Z.k c35
      clear c35
      obtain ⟨y480, hy480⟩ : ∃ y_ : List (S37), y_ = (x8_3 ++ [(⟨(rd_T37 (rd_L5 t462 x7_2) x9_3).f0, (-1), 0⟩ : S37)]) := ⟨_, rfl⟩
      replace H : (laws_FnFreeProduct.l1 k3 t465 t468 x7_2 y480 (wrap64 (x9_3 + 1)) t458 t459 t462 t458 t459 x103_2) = some r := by first | (rw [hy480]; with_reducible exact H) | (have H2_ := (Option.bind_some _ _).symm.trans H; rw [hy480]; with_reducible exact H2_) | (have H2_ := (Option.bind_some _ _).symm.trans H; with_reducible exact H2_) | with_reducible exact H | (rw [hy480]; exact H) | exact H
      have Ny480 := Z.k hy480
      clear hy480
      have H' := Z.k H
      clear H
      have hnb36 := NB469_473.out
      have hnc36 := NB473_469.out
      have hcz37 := Z.c3 BK469.out
      have p477 : 0 ≤ (x7_2 : Int) := Z.od
      have q477 : x7_2 < (t462.length : Int) := Z.od
      obtain ⟨ad477, A477_0, c477_0, e477, hx477_0, hl477_0, hi477_0⟩ := at_L5 (Kd.N_reads' HO_107.out).2.2 x7_2 p477 q477
      cases e477
      obtain ⟨ce477, hce477, hMe477, hcc477⟩ := Kd.N_get HO_107.out [] x7_2 p477 (by first | exact q477 | exact Z.od | (have e_ := (Kd.N_reads' HO_107.out).1; omega))
      obtain ⟨ua477_0, uc477_0, rfl, ul477_0, ge477_0⟩ := Kd.FK_slice_open hMe477
      have hv477_0 := hcc477 0 _ rfl
      rw [Nat.add_zero, show ((Kd.slice 37 k37)).sz = 1 from rfl, Nat.mul_one] at hv477_0
      replace hv477_0 := Option.some.inj (hv477_0.symm.trans hx477_0)
      injection hv477_0 with hva_ hvn_ hvc_
      rw [hva_] at ge477_0
      rw [hvc_] at ul477_0
      have HL477_0 := Z.k (show Kd.V k37 37 _ w.heap.size _ _ (rd_L5 t462 x7_2) from Kd.V_mk ul477_0 ge477_0)
      clear hva_ hvn_ hvc_ ge477_0 ul477_0
      clear hcc477 hce477
      have HR477_0 := Z.k hi477_0
      have HC477_0 := Z.k hl477_0
      clear hi477_0 hl477_0
      replace p477 := eq_true p477
      replace q477 := eq_true q477
      have p478 : 0 ≤ (x7_2 : Int) := Z.od
      have q478 : x7_2 < (t462.length : Int) := Z.od
      obtain ⟨ad478, A478_0, c478_0, e478, hx478_0, hl478_0, hi478_0⟩ := at_L5 (Kd.N_reads' HO_107.out).2.2 x7_2 p478 q478
      obtain rfl : ad477 = ad478 := (by injection e478)
      obtain ⟨ce478, hce478, hMe478, hcc478⟩ := Kd.N_get HO_107.out [] x7_2 p478 (by first | exact q478 | exact Z.od | (have e_ := (Kd.N_reads' HO_107.out).1; omega))
      obtain ⟨ua478_0, uc478_0, rfl, ul478_0, ge478_0⟩ := Kd.FK_slice_open hMe478
      have hv478_0 := hcc478 0 _ rfl
      rw [Nat.add_zero, show ((Kd.slice 37 k37)).sz = 1 from rfl, Nat.mul_one] at hv478_0
      replace hv478_0 := Option.some.inj (hv478_0.symm.trans hx478_0)
      injection hv478_0 with hva_ hvn_ hvc_
      rw [hva_] at ge478_0
      rw [hvc_] at ul478_0
      have HL478_0 := Z.k (show Kd.V k37 37 _ w.heap.size _ _ (rd_L5 t462 x7_2) from Kd.V_mk ul478_0 ge478_0)
      clear hva_ hvn_ hvc_ ge478_0 ul478_0
      clear hcc478 hce478
      have HR478_0 := Z.k hi478_0
      have HC478_0 := Z.k hl478_0
      clear hi478_0 hl478_0
      replace p478 := eq_true p478
      replace q478 := eq_true q478
      have ea_ := Option.some.inj (hx477_0.symm.trans hx478_0)
      injection ea_ with ea_ en_ ec_
      subst ea_
      subst ec_
      clear en_
      have p479 : 0 ≤ (x9_3 : Int) := Z.od
      have q479 : x9_3 < ((rd_L5 t462 x7_2).length : Int) := Z.od
      obtain ⟨ad479, A479_0, c479_0, e479, hx479_0, hx479_1, hx479_2, hl479_0, hi479_0⟩ := at_T37 (by repeat (first | (with_reducible exact HR478_0.out) | (with_reducible refine Kd.C_alloc ?_ _) | (with_reducible refine Kd.C_drewN ?_ _) | (with_reducible refine Kd.C_drew ?_) | exact HR478_0.out)) x9_3 p479 q479
      cases e479
      obtain ⟨ce479, hce479, hMe479, hcc479⟩ := Kd.V_get HL478_0.out z37 x9_3 p479 (by first | exact q479 | exact Z.od | (have e_ := (Kd.V_reads' HL478_0.out).1; omega))
      obtain ⟨ua479_0, uc479_0, rfl, ul479_0, ge479_0⟩ := k37_openF hMe479
      have hv479_0 := hcc479 0 _ rfl
      rw [Nat.add_zero] at hv479_0
      replace hv479_0 := Option.some.inj (hv479_0.symm.trans hx479_0)
      injection hv479_0 with hva_ hvn_ hvc_
      rw [hva_] at ge479_0
      rw [hvc_] at ul479_0
      have HL479_0 := Z.k (show Kd.V k111 111 _ w.heap.size _ _ ((rd_T37 (rd_L5 t462 x7_2) x9_3).f0) from Kd.V_mk ul479_0 ge479_0)
      clear hva_ hvn_ hvc_ ge479_0 ul479_0
      clear hcc479 hce479
      have HR479_0 := Z.k hi479_0
      have HC479_0 := Z.k hl479_0
      clear hi479_0 hl479_0
      replace p479 := eq_true p479
      replace q479 := eq_true q479
      go_wp2_with (first | ((with_reducible refine gate_builtin (b := .append) (xs := #[.tmp 56, .tmp 67]) rfl ?_); (try (refine gate_guard (by rfl) ?_; dsimp only)); at_builtin; refine Kd.N_append k37 (w0 := w) w.heap.size rfl (.tmp 56) (.tmp 67) 34 37 (.agg #[(.slice none 0 0), (.int .i64 0), (.int .i64 0)]) 40 rfl Try.underlying34 info37 rfl (by decide) (by omega) u8 x8_3 (⟨(rd_T37 (rd_L5 t462 x7_2) x9_3).f0, (-1), 0⟩ : S37) [.slice A479_0 ((rd_T37 (rd_L5 t462 x7_2) x9_3).f0).length c479_0, .int .i64 (-1), .int .i64 0] (fun k_ => some k_ ≠ (v466 : Value).ownBlock ∧ some k_ ≠ (.slice Ao8 t459.length co8 : Value).ownBlock ∧ some k_ ≠ (.slice (some ad477) t462.length co9 : Value).ownBlock ∧ some k_ ≠ (.slice Ao8 t459.length co8 : Value).ownBlock ∧ some k_ ≠ (u103 : Value).ownBlock ∧ k_ ≠ gb469 ∧ k_ ≠ gb473) (fun k_ => ((fun k_ => some k_ ≠ (v466 : Value).ownBlock ∧ some k_ ≠ (.slice Ao8 t459.length co8 : Value).ownBlock ∧ some k_ ≠ (.slice (some ad477) t462.length co9 : Value).ownBlock ∧ some k_ ≠ (.slice Ao8 t459.length co8 : Value).ownBlock ∧ some k_ ≠ (u103 : Value).ownBlock ∧ k_ ≠ gb469 ∧ k_ ≠ gb473)) k_ ∧ some k_ ≠ (u8 : Value).ownBlock) rfl rfl ?aP (fun _ hk => hk) ?aF ?aO ?aB ?aS ?aL ?_; (case aP => exact (k37_mkF _ _ (⟨(rd_T37 (rd_L5 t462 x7_2) x9_3).f0, (-1), 0⟩ : S37) (Kd.V_reads' (Kd.V_mono (ok' := (fun k_ => ((fun k_ => some k_ ≠ (v466 : Value).ownBlock ∧ some k_ ≠ (.slice Ao8 t459.length co8 : Value).ownBlock ∧ some k_ ≠ (.slice (some ad477) t462.length co9 : Value).ownBlock ∧ some k_ ≠ (.slice Ao8 t459.length co8 : Value).ownBlock ∧ some k_ ≠ (u103 : Value).ownBlock ∧ k_ ≠ gb469 ∧ k_ ≠ gb473)) k_ ∧ some k_ ≠ (u8 : Value).ownBlock)) (HL479_0.out) (fun k_ hk => ⟨⟨hk.1.1, ⟨hk.1.2.2.1, ⟨hk.2, ⟨hk.1.2.2.2.1, ⟨hk.1.2.2.2.2.1, ⟨hk.1.2.2.2.2.2.1, hk.1.2.2.2.2.2.2⟩⟩⟩⟩⟩⟩, hk.1.2.1⟩))).2.1 (Kd.V_F (Kd.V_mono (ok' := (fun k_ => ((fun k_ => some k_ ≠ (v466 : Value).ownBlock ∧ some k_ ≠ (.slice Ao8 t459.length co8 : Value).ownBlock ∧ some k_ ≠ (.slice (some ad477) t462.length co9 : Value).ownBlock ∧ some k_ ≠ (.slice Ao8 t459.length co8 : Value).ownBlock ∧ some k_ ≠ (u103 : Value).ownBlock ∧ k_ ≠ gb469 ∧ k_ ≠ gb473)) k_ ∧ some k_ ≠ (u8 : Value).ownBlock)) (HL479_0.out) (fun k_ hk => ⟨⟨hk.1.1, ⟨hk.1.2.2.1, ⟨hk.2, ⟨hk.1.2.2.2.1, ⟨hk.1.2.2.2.2.1, ⟨hk.1.2.2.2.2.2.1, hk.1.2.2.2.2.2.2⟩⟩⟩⟩⟩⟩, hk.1.2.1⟩))))); (case aB => exact (by repeat (first | (with_reducible first | exact HB.out | apply below_alloc | apply pw_below_drewN | apply below_drew1 | refine below_set ?_ GE469.out | refine below_set ?_ GE473.out) | exact HB.out))); (case aF => exact (fun k_ hk => ⟨Kd.fresh' (Kd.R_lt (by (with_reducible repeat (first | apply Kd.R_alloc | apply Kd.R_drewN | apply Kd.R_drew)); exact HO_4.out)) k_ hk, Kd.fresh' (Kd.R_lt (by (with_reducible repeat (first | apply Kd.R_alloc | apply Kd.R_drewN | apply Kd.R_drew)); exact HO_109.out)) k_ hk, Kd.fresh' (Kd.N_lt (by (with_reducible repeat (first | apply Kd.N_alloc | apply Kd.N_drewN | apply Kd.N_drew)); exact HO_107.out)) k_ hk, Kd.fresh' (Kd.R_lt (by (with_reducible repeat (first | apply Kd.R_alloc | apply Kd.R_drewN | apply Kd.R_drew)); exact HO_113.out)) k_ hk, Kd.fresh' (Kd.N_lt (by (with_reducible repeat (first | apply Kd.N_alloc | apply Kd.N_drewN | apply Kd.N_drew)); exact HO_103.out)) k_ hk, Kd.freshB (g := gb469) (o := .cells #[.int .i64 t458, .slice Ao8 t459.length co8, .slice (some ad477) t462.length co9] 28 (0, 0)) (Z.bk BK469.out) k_ hk, Kd.freshB (g := gb473) (o := .cells #[.int .i64 t458, .slice Ao8 t459.length co8, u103] 28 (0, 0)) (Z.bk BK473.out) k_ hk⟩)); (case aO => exact (by (with_reducible repeat (first | apply Kd.N_alloc | apply Kd.N_drewN | apply Kd.N_drew)); exact HO_8.out)); (case aS => exact (below_size (by repeat (first | (with_reducible first | exact HB.out | apply below_alloc | apply pw_below_drewN | apply below_drew1 | refine below_set ?_ GE469.out | refine below_set ?_ GE473.out) | exact HB.out)))); (case aL => have := LMc35.out; omega); intro v481 w38 ho hb hg hat; rw [← Ny480.out] at ho; replace HO_4 := Z.k (Kd.R_over' (by (with_reducible repeat (first | apply Kd.R_alloc | apply Kd.R_drewN | apply Kd.R_drew)); exact HO_4.out) (Kd.N_typed (by (with_reducible repeat (first | apply Kd.N_alloc | apply Kd.N_drewN | apply Kd.N_drew)); exact HO_8.out)) (by decide) hg); replace HO_109 := Z.k (Kd.R_over' (by (with_reducible repeat (first | apply Kd.R_alloc | apply Kd.R_drewN | apply Kd.R_drew)); exact HO_109.out) (Kd.N_typed (by (with_reducible repeat (first | apply Kd.N_alloc | apply Kd.N_drewN | apply Kd.N_drew)); exact HO_8.out)) (by decide) hg); replace HO_107 := Z.k (Kd.N_afterv (ok := (fun k_ => some k_ ≠ (v466 : Value).ownBlock ∧ some k_ ≠ (.slice Ao8 t459.length co8 : Value).ownBlock ∧ some k_ ≠ (.slice Ao8 t459.length co8 : Value).ownBlock ∧ some k_ ≠ (u103 : Value).ownBlock ∧ k_ ≠ gb469 ∧ k_ ≠ gb473)) (by (with_reducible repeat (first | apply Kd.N_alloc | apply Kd.N_drewN | apply Kd.N_drew)); exact Kd.N_mono HO_107.out (fun _ hk => ⟨⟨hk.1, ⟨hk.2.2.1, ⟨hk.2.2.2.1, ⟨hk.2.2.2.2.1, ⟨hk.2.2.2.2.2.1, hk.2.2.2.2.2.2⟩⟩⟩⟩⟩, hk.2.1⟩)) hg hat); replace HO_113 := Z.k (Kd.R_over' (by (with_reducible repeat (first | apply Kd.R_alloc | apply Kd.R_drewN | apply Kd.R_drew)); exact HO_113.out) (Kd.N_typed (by (with_reducible repeat (first | apply Kd.N_alloc | apply Kd.N_drewN | apply Kd.N_drew)); exact HO_8.out)) (by decide) hg); replace HO_103 := Z.k (Kd.N_afterv (ok := (fun k_ => some k_ ≠ (v466 : Value).ownBlock ∧ some k_ ≠ (.slice Ao8 t459.length co8 : Value).ownBlock ∧ some k_ ≠ (.slice (some ad477) t462.length co9 : Value).ownBlock ∧ some k_ ≠ (.slice Ao8 t459.length co8 : Value).ownBlock ∧ k_ ≠ gb469 ∧ k_ ≠ gb473)) (by (with_reducible repeat (first | apply Kd.N_alloc | apply Kd.N_drewN | apply Kd.N_drew)); exact Kd.N_mono HO_103.out (fun _ hk => ⟨⟨hk.1, ⟨hk.2.2.1, ⟨hk.2.2.2.1, ⟨hk.2.2.2.2.1, ⟨hk.2.2.2.2.2.1, hk.2.2.2.2.2.2⟩⟩⟩⟩⟩, hk.2.1⟩)) hg hat); replace BK469 := Z.k (blk_grown (g := gb469) (o := .cells #[.int .i64 t458, .slice Ao8 t459.length co8, .slice (some ad477) t462.length co9] 28 (0, 0)) (Z.bk BK469.out) hg (Kd.N_ne HO_8.out BK469.out (by decide))); replace BK473 := Z.k (blk_grown (g := gb473) (o := .cells #[.int .i64 t458, .slice Ao8 t459.length co8, u103] 28 (0, 0)) (Z.bk BK473.out) hg (Kd.N_ne HO_8.out BK473.out (by decide))); replace HL477_0 := Z.k (Kd.V_afterv (ok := (fun k_ => some k_ ≠ (v466 : Value).ownBlock ∧ some k_ ≠ (.slice Ao8 t459.length co8 : Value).ownBlock ∧ some k_ ≠ (.slice (some ad477) t462.length co9 : Value).ownBlock ∧ some k_ ≠ (.slice Ao8 t459.length co8 : Value).ownBlock ∧ some k_ ≠ (u103 : Value).ownBlock ∧ k_ ≠ gb469 ∧ k_ ≠ gb473)) (by (with_reducible repeat (first | apply Kd.V_alloc | apply Kd.V_drewN | apply Kd.V_drew)); exact Kd.V_mono HL477_0.out (fun _ hk => ⟨⟨hk.1.1, ⟨hk.1.2.2.1, ⟨hk.2, ⟨hk.1.2.2.2.1, ⟨hk.1.2.2.2.2.1, ⟨hk.1.2.2.2.2.2.1, hk.1.2.2.2.2.2.2⟩⟩⟩⟩⟩⟩, hk.1.2.1⟩)) hg hat); replace HL478_0 := Z.k (Kd.V_afterv (ok := (fun k_ => some k_ ≠ (v466 : Value).ownBlock ∧ some k_ ≠ (.slice Ao8 t459.length co8 : Value).ownBlock ∧ some k_ ≠ (.slice (some ad477) t462.length co9 : Value).ownBlock ∧ some k_ ≠ (.slice Ao8 t459.length co8 : Value).ownBlock ∧ some k_ ≠ (u103 : Value).ownBlock ∧ k_ ≠ gb469 ∧ k_ ≠ gb473)) (by (with_reducible repeat (first | apply Kd.V_alloc | apply Kd.V_drewN | apply Kd.V_drew)); exact Kd.V_mono HL478_0.out (fun _ hk => ⟨⟨hk.1.1, ⟨hk.1.2.2.1, ⟨hk.2, ⟨hk.1.2.2.2.1, ⟨hk.1.2.2.2.2.1, ⟨hk.1.2.2.2.2.2.1, hk.1.2.2.2.2.2.2⟩⟩⟩⟩⟩⟩, hk.1.2.1⟩)) hg hat); replace HL479_0 := Z.k (Kd.V_afterv (ok := (fun k_ => some k_ ≠ (v466 : Value).ownBlock ∧ some k_ ≠ (.slice Ao8 t459.length co8 : Value).ownBlock ∧ some k_ ≠ (.slice (some ad477) t462.length co9 : Value).ownBlock ∧ some k_ ≠ (.slice Ao8 t459.length co8 : Value).ownBlock ∧ some k_ ≠ (u103 : Value).ownBlock ∧ k_ ≠ gb469 ∧ k_ ≠ gb473)) (by (with_reducible repeat (first | apply Kd.V_alloc | apply Kd.V_drewN | apply Kd.V_drew)); exact Kd.V_mono HL479_0.out (fun _ hk => ⟨⟨hk.1.1, ⟨hk.1.2.2.1, ⟨hk.2, ⟨hk.1.2.2.2.1, ⟨hk.1.2.2.2.2.1, ⟨hk.1.2.2.2.2.2.1, hk.1.2.2.2.2.2.2⟩⟩⟩⟩⟩⟩, hk.1.2.1⟩)) hg hat); replace HB := Z.k (hb); have HO482 := Z.k (ho); clear HO_8; clear ho hb hg hat))
      go_roundg k3
      case measure => have := HJ3.out; have := HK2.out; have := HK3.out; omega
      case rel => exact ⟨(y480), (wrap64 (x9_3 + 1)), (by first | rfl | (simp; done) | (simp [*]; done)), H', ⟨by have := HJ3.out; have := HK2.out; have := HK3.out; omega⟩, ⟨by (with_reducible repeat (first | apply Kd.R_alloc | apply Kd.R_drewN | apply Kd.R_drew)); exact HO_4.out⟩, ⟨by (with_reducible repeat (first | apply Kd.N_alloc | apply Kd.N_drewN | apply Kd.N_drew)); exact HO482.out⟩, ⟨by (with_reducible repeat (first | apply Kd.R_alloc | apply Kd.R_drewN | apply Kd.R_drew)); exact HO_109.out⟩, ⟨by (with_reducible repeat (first | apply Kd.N_alloc | apply Kd.N_drewN | apply Kd.N_drew)); exact Kd.N_mono HO_107.out (fun _ hk => ⟨hk.1.1, ⟨hk.2, ⟨hk.1.2.1, ⟨hk.1.2.2.1, ⟨hk.1.2.2.2.1, ⟨hk.1.2.2.2.2.1, hk.1.2.2.2.2.2⟩⟩⟩⟩⟩⟩)⟩, ⟨by (with_reducible repeat (first | apply Kd.R_alloc | apply Kd.R_drewN | apply Kd.R_drew)); exact HO_113.out⟩, ⟨by (with_reducible repeat (first | apply Kd.N_alloc | apply Kd.N_drewN | apply Kd.N_drew)); exact Kd.N_mono HO_103.out (fun _ hk => ⟨hk.1.1, ⟨hk.2, ⟨hk.1.2.1, ⟨hk.1.2.2.1, ⟨hk.1.2.2.2.1, ⟨hk.1.2.2.2.2.1, hk.1.2.2.2.2.2⟩⟩⟩⟩⟩⟩)⟩, ⟨by (with_reducible repeat (first | refine blk_drewN ?_ _ | refine blk_drew ?_ | refine blk_alloc ?_ _)); exact BK469.out⟩, ⟨by (with_reducible repeat (first | refine blk_drewN ?_ _ | refine blk_drew ?_ | refine blk_alloc ?_ _)); exact BK473.out⟩, ⟨by repeat (first | (with_reducible first | exact HB.out | apply below_alloc | apply pw_below_drewN | apply below_drew1 | refine below_set ?_ GE469.out | refine below_set ?_ GE473.out) | exact HB.out)⟩⟩
    have H' := Z.k H
    clear H
    have hnb47 := NB469_473.out
    have hnc47 := NB473_469.out
    have hcz48 := Z.c3 BK469.out
    go_wp2
    go_loopg [10, 11] k2 (fun kq v10 v11 w' => ∃ (x10_3 : Int) (x11_3 : Int), v10 = .int .i64 x10_3 ∧ v11 = .int .i64 x11_3 ∧ Aside0 (laws_FnFreeProduct.l2 kq t465 t468 x10_3 x11_3 t458 t459 t462 t458 t459 x103_2 = some r) ∧ Aside0 (kq ≤ k2) ∧ Aside0 (Kd.R (Kd.int .i64) 3 w' w.heap.size (fun k_ => some k_ ≠ ((.slice Ao8 t459.length co8) : Value).ownBlock ∧ some k_ ≠ ((.slice Ao8 t459.length co8) : Value).ownBlock) v466 t465) ∧ Aside0 (Kd.R (Kd.int .i64) 3 w' w.heap.size (fun k_ => some k_ ≠ (v466 : Value).ownBlock) (.slice Ao8 t459.length co8) t459) ∧ Aside0 (Kd.N (Kd.slice 37 k37) 34 w' w.heap.size (fun k_ => some k_ ≠ (v466 : Value).ownBlock ∧ some k_ ≠ ((.slice Ao8 t459.length co8) : Value).ownBlock ∧ some k_ ≠ ((.slice Ao8 t459.length co8) : Value).ownBlock ∧ some k_ ≠ (u103 : Value).ownBlock ∧ k_ ≠ gb469 ∧ k_ ≠ gb473) (.slice Ao9 t462.length co9) t462) ∧ Aside0 (Kd.R (Kd.int .i64) 3 w' w.heap.size (fun k_ => some k_ ≠ (v466 : Value).ownBlock) (.slice Ao8 t459.length co8) t459) ∧ Aside0 (Kd.N (Kd.slice 37 k37) 34 w' w.heap.size (fun k_ => some k_ ≠ (v466 : Value).ownBlock ∧ some k_ ≠ ((.slice Ao8 t459.length co8) : Value).ownBlock ∧ some k_ ≠ ((.slice Ao9 t462.length co9) : Value).ownBlock ∧ some k_ ≠ ((.slice Ao8 t459.length co8) : Value).ownBlock ∧ k_ ≠ gb469 ∧ k_ ≠ gb473) u103 x103_2) ∧ Aside0 (w'.heap[gb469]? = some (.cells #[.int .i64 t458, (.slice Ao8 t459.length co8), (.slice Ao9 t462.length co9)] 28 (0, 0))) ∧ Aside0 (w'.heap[gb473]? = some (.cells #[.int .i64 t458, (.slice Ao8 t459.length co8), u103] 28 (0, 0))) ∧ Aside0 (Below w.heap.size w w'))
    case atStart => exact ⟨(1), (0), (by first | rfl | (simp; done) | (simp [*]; done)), (by first | rfl | (simp; done) | (simp [*]; done)), H', ⟨Nat.le_refl _⟩, ⟨by (with_reducible repeat (first | apply Kd.R_alloc | apply Kd.R_drewN | apply Kd.R_drew)); exact HO_4.out⟩, ⟨by (with_reducible repeat (first | apply Kd.R_alloc | apply Kd.R_drewN | apply Kd.R_drew)); exact HO_109.out⟩, ⟨by (with_reducible repeat (first | apply Kd.N_alloc | apply Kd.N_drewN | apply Kd.N_drew)); exact HO_107.out⟩, ⟨by (with_reducible repeat (first | apply Kd.R_alloc | apply Kd.R_drewN | apply Kd.R_drew)); exact HO_113.out⟩, ⟨by (with_reducible repeat (first | apply Kd.N_alloc | apply Kd.N_drewN | apply Kd.N_drew)); exact HO_103.out⟩, ⟨by (with_reducible repeat (first | refine blk_drewN ?_ _ | refine blk_drew ?_ | refine blk_alloc ?_ _)); exact BK469.out⟩, ⟨by (with_reducible repeat (first | refine blk_drewN ?_ _ | refine blk_drew ?_ | refine blk_alloc ?_ _)); exact BK473.out⟩, ⟨by repeat (first | (with_reducible first | exact HB.out | apply below_alloc | apply pw_below_drewN | apply below_drew1 | refine below_set ?_ GE469.out | refine below_set ?_ GE473.out) | exact HB.out)⟩⟩
    clear H'
    try clear c1
    try clear c2
    try clear c2b0
    try clear c2b1
    try clear p2
    try clear c3
    try clear c4
    try clear p4
    try clear q4
    try clear hx4
    try clear p6
    try clear c11
    try clear c15
    try clear c16
    try clear c18
    try clear c20
    try clear c24
    try clear c26
    try clear c26b0
    try clear c27
    try clear c31
    try clear c31b0
    try clear c32
    try clear c32b0
    try clear c33
    try clear c33b0
    try clear c34
    try clear c34b0
    try clear c35
    try clear c36
    try clear c39
    try clear c40
    try clear c47
    try clear p47
    try clear q47
    try clear hx47
    try clear hcz13_0
    try clear hcz13_1
    try clear hcz13_2
    try clear hcz16_0
    try clear hcz16_1
    try clear hcz16_2
    try clear hcz17_0
    try clear hcz17_1
    try clear hcz17_2
    try clear hcz22_0
    try clear hcz22_1
    try clear hcz22_2
    try clear hcz25_0
    try clear hcz25_1
    try clear hcz25_2
    try clear hcz28_0
    try clear hcz28_1
    try clear hcz28_2
    try clear hcz37_0
    try clear hcz37_1
    try clear hcz37_2
    try clear hcz41_0
    try clear hcz41_1
    try clear hcz41_2
    try clear hcz42_0
    try clear hcz42_1
    try clear hcz42_2
    try clear hcz46_0
    try clear hcz46_1
    try clear hcz46_2
    try clear hcz48_0
    try clear hcz48_1
    try clear hcz48_2
    try clear hcz7_0
    try clear hcz7_1
    try clear hcz7_2
    try clear hfz13_0
    try clear hfz13_1
    try clear hfz13_2
    try clear hfz16_0
    try clear hfz16_1
    try clear hfz16_2
    try clear hfz17_0
    try clear hfz17_1
    try clear hfz17_2
    try clear hfz22_0
    try clear hfz22_1
    try clear hfz22_2
    try clear hfz25_0
    try clear hfz25_1
    try clear hfz25_2
    try clear hfz28_0
    try clear hfz28_1
    try clear hfz28_2
    try clear hfz37_0
    try clear hfz37_1
    try clear hfz37_2
    try clear hfz41_0
    try clear hfz41_1
    try clear hfz41_2
    try clear hfz42_0
    try clear hfz42_1
    try clear hfz42_2
    try clear hfz46_0
    try clear hfz46_1
    try clear hfz46_2
    try clear hfz48_0
    try clear hfz48_1
    try clear hfz48_2
    try clear hfz7_0
    try clear hfz7_1
    try clear hfz7_2
    try clear hx477_0
    try clear hx478_0
    try clear hx479_0
    try clear hx479_1
    try clear hx479_2
    try clear p2
    try clear p477
    try clear p478
    try clear p479
    try clear q477
    try clear q478
    try clear q479
    obtain ⟨x10_3, x11_3, rfl, rfl, HA, HK3, HO_4, HO_109, HO_107, HO_113, HO_103, BK469, BK473, HB⟩ := hrel
    cases gk with
    | zero => exact absurd HA.out (by simp [laws_FnFreeProduct.l2])
    | succ k3 =>
     have H := HA.out
     clear HA
     simp only [laws_FnFreeProduct.l2] at H
     revert H; refine Z.fm ?_ ?_ <;> intro c49b0 H
     ·revert H; refine Z.bd ?_; rintro t500 A72 H
      try dsimp only at H
      by_cases c73 : t500 = true
      ·subst c73
       rw [if_pos rfl] at H
       revert H; refine Z.bd ?_; rintro t501 A74 H
       try dsimp only at H
       by_cases c75 : (t501.length : Int) = x10_3
       ·rw [if_pos c75] at H
        have c75b0 : ((t501.length : Int) == x10_3) = true := beq_iff_eq.mpr c75
        have c75b1 : ((t501.length : Int) != x10_3) = false := bne_eq_false_iff_eq.mpr c75
        clear c75
        revert H; refine Z.bd ?_; rintro t504 A76 H
        try dsimp only at H
        obtain rfl := Option.some.inj H
        have hnb77 := NB469_473.out
        have hnc77 := NB473_469.out
        have hcz78 := Z.c3 BK469.out
        go_wp2_with (first | ((with_reducible refine gate_callee (f := 18) rfl ?_); refine goesL_ (some 102) rfl rfl Try.func18 (by kernel_rfl) rfl #[] rfl Z.ar ?_; (with_reducible refine (laws_alive.calls  true _ A72.out).mono ?_); rintro e w' ⟨rfl, ⟨nd, rfl⟩⟩; refine ⟨_, rfl, ?_⟩; have hcz79 := Z.c3 BK473.out; obtain ⟨Ao80, co80, eo80⟩ := Kd.N_slice HO_103.out; subst eo80; obtain ⟨Ao81, co81, eo81⟩ := Kd.R_slice HO_4.out; subst eo81) | (go_at_call 19; (with_reducible refine (impl_ReachOf.calls k3 t458 _ _ t459 _ _ x103_2 _ _ t465 t468 t501 _ ?q1 ?q2 ?q3 ?q4 ?q5 ?q6 A74.out).mono ?_); (case q1 => exact Z.rr HO_113); (case q2 => exact (Kd.R_reads' HO_113.out).2.1); (case q3 => repeat (first | exact (Kd.N_reads' HO_103.out).2.2 | (with_reducible refine Kd.C_alloc ?_ _) | (with_reducible refine Kd.C_drewN ?_ _) | (with_reducible refine Kd.C_drew ?_))); (case q4 => exact (Kd.N_reads' HO_103.out).2.1); (case q5 => exact Z.rr HO_4); (case q6 => exact (Kd.R_reads' HO_4.out).2.1); rintro e w82 ⟨v502, rfl, ho0, hb⟩; replace HO_107 := Z.k (Kd.N_elder' (by (with_reducible repeat (first | apply Kd.N_alloc | apply Kd.N_drewN | apply Kd.N_drew)); exact HO_107.out) (Kd.R_base ho0) hb); replace HO_103 := Z.k (Kd.N_elder' (by (with_reducible repeat (first | apply Kd.N_alloc | apply Kd.N_drewN | apply Kd.N_drew)); exact HO_103.out) (Kd.R_base ho0) hb); have HO503 := Z.k (Kd.R_lower (Kd.R_new' (Kd.R_new' (Kd.R_new' ho0 (Kd.R_lt (by (with_reducible repeat (first | apply Kd.R_alloc | apply Kd.R_drewN | apply Kd.R_drew)); exact HO_4.out))) (Kd.R_lt (by (with_reducible repeat (first | apply Kd.R_alloc | apply Kd.R_drewN | apply Kd.R_drew)); exact HO_109.out))) (Kd.R_lt (by (with_reducible repeat (first | apply Kd.R_alloc | apply Kd.R_drewN | apply Kd.R_drew)); exact HO_113.out))) (below_size (by repeat (first | (with_reducible first | exact HB.out | apply below_alloc | apply pw_below_drewN | apply below_drew1 | refine below_set ?_ GE469.out | refine below_set ?_ GE473.out) | exact HB.out)))); replace HO_4 := Z.k (Kd.R_elder' (by (with_reducible repeat (first | apply Kd.R_alloc | apply Kd.R_drewN | apply Kd.R_drew)); exact HO_4.out) (Kd.R_base ho0) hb); replace HO_109 := Z.k (Kd.R_elder' (by (with_reducible repeat (first | apply Kd.R_alloc | apply Kd.R_drewN | apply Kd.R_drew)); exact HO_109.out) (Kd.R_base ho0) hb); replace HO_113 := Z.k (Kd.R_elder' (by (with_reducible repeat (first | apply Kd.R_alloc | apply Kd.R_drewN | apply Kd.R_drew)); exact HO_113.out) (Kd.R_base ho0) hb); replace BK469 := Z.bb BK469 hb; replace BK473 := Z.bb BK473 hb; replace HB := Z.k (below_step (by repeat (first | (with_reducible first | exact HB.out | apply below_alloc | apply pw_below_drewN | apply below_drew1 | refine below_set ?_ GE469.out | refine below_set ?_ GE473.out) | exact HB.out)) hb); (try clear hb); (try clear hb2); (try clear hk); (try clear hi); (try clear ho0); obtain ⟨Ao83, co83, eo83⟩ := Kd.R_slice HO503.out; subst eo83; have hcz84 := Z.c3 BK469.out) | (go_at_call 19; (with_reducible refine (impl_ReachOf.calls k3 t458 _ _ t459 _ _ t462 _ _ t465 t468 t504 _ ?q1 ?q2 ?q3 ?q4 ?q5 ?q6 A76.out).mono ?_); (case q1 => exact Z.rr HO_109); (case q2 => exact (Kd.R_reads' HO_109.out).2.1); (case q3 => repeat (first | exact (Kd.N_reads' HO_107.out).2.2 | (with_reducible refine Kd.C_alloc ?_ _) | (with_reducible refine Kd.C_drewN ?_ _) | (with_reducible refine Kd.C_drew ?_))); (case q4 => exact (Kd.N_reads' HO_107.out).2.1); (case q5 => exact Z.rr HO_4); (case q6 => exact (Kd.R_reads' HO_4.out).2.1); rintro e w85 ⟨v505, rfl, ho0, hb⟩; replace HO_107 := Z.k (Kd.N_elder' (by (with_reducible repeat (first | apply Kd.N_alloc | apply Kd.N_drewN | apply Kd.N_drew)); exact HO_107.out) (Kd.R_base ho0) hb); replace HO_103 := Z.k (Kd.N_elder' (by (with_reducible repeat (first | apply Kd.N_alloc | apply Kd.N_drewN | apply Kd.N_drew)); exact HO_103.out) (Kd.R_base ho0) hb); have HO506 := Z.k (Kd.R_lower (Kd.R_new' (Kd.R_new' (Kd.R_new' (Kd.R_new' ho0 (Kd.R_lt (by (with_reducible repeat (first | apply Kd.R_alloc | apply Kd.R_drewN | apply Kd.R_drew)); exact HO_4.out))) (Kd.R_lt (by (with_reducible repeat (first | apply Kd.R_alloc | apply Kd.R_drewN | apply Kd.R_drew)); exact HO_109.out))) (Kd.R_lt (by (with_reducible repeat (first | apply Kd.R_alloc | apply Kd.R_drewN | apply Kd.R_drew)); exact HO_113.out))) (Kd.R_lt (by (with_reducible repeat (first | apply Kd.R_alloc | apply Kd.R_drewN | apply Kd.R_drew)); exact HO503.out))) (below_size (by repeat (first | (with_reducible first | exact HB.out | apply below_alloc | apply pw_below_drewN | apply below_drew1 | refine below_set ?_ GE469.out | refine below_set ?_ GE473.out) | exact HB.out)))); replace HO_4 := Z.k (Kd.R_elder' (by (with_reducible repeat (first | apply Kd.R_alloc | apply Kd.R_drewN | apply Kd.R_drew)); exact HO_4.out) (Kd.R_base ho0) hb); replace HO_109 := Z.k (Kd.R_elder' (by (with_reducible repeat (first | apply Kd.R_alloc | apply Kd.R_drewN | apply Kd.R_drew)); exact HO_109.out) (Kd.R_base ho0) hb); replace HO_113 := Z.k (Kd.R_elder' (by (with_reducible repeat (first | apply Kd.R_alloc | apply Kd.R_drewN | apply Kd.R_drew)); exact HO_113.out) (Kd.R_base ho0) hb); replace HO503 := Z.k (Kd.R_elder' (by (with_reducible repeat (first | apply Kd.R_alloc | apply Kd.R_drewN | apply Kd.R_drew)); exact HO503.out) (Kd.R_base ho0) hb); replace BK469 := Z.bb BK469 hb; replace BK473 := Z.bb BK473 hb; replace HB := Z.k (below_step (by repeat (first | (with_reducible first | exact HB.out | apply below_alloc | apply pw_below_drewN | apply below_drew1 | refine below_set ?_ GE469.out | refine below_set ?_ GE473.out) | exact HB.out)) hb); (try clear hb); (try clear hb2); (try clear hk); (try clear hi); (try clear ho0); obtain ⟨Ao86, co86, eo86⟩ := Kd.R_slice HO506.out; subst eo86))
        go_ret
        exact ⟨by first | rfl | (simp [errW_none, errW_some] <;> rfl) | (simp [*, errW_none, errW_some] <;> rfl), by repeat (first | (with_reducible first | exact HB.out | apply below_alloc | apply pw_below_drewN | apply below_drew1 | refine below_set ?_ GE469.out | refine below_set ?_ GE473.out) | exact HB.out)⟩
       rw [if_neg c75] at H
       have c75b0 : ((t501.length : Int) == x10_3) = false := beq_eq_false_iff_ne.mpr c75
       have c75b1 : ((t501.length : Int) != x10_3) = true := bne_iff_ne.mpr c75
       obtain rfl := Option.some.inj H
       have hnb87 := NB469_473.out
       have hnc87 := NB473_469.out
       have hcz88 := Z.c3 BK469.out
       go_wp2_with (first | ((with_reducible refine gate_callee (f := 18) rfl ?_); refine goesL_ (some 102) rfl rfl Try.func18 (by kernel_rfl) rfl #[] rfl Z.ar ?_; (with_reducible refine (laws_alive.calls  true _ A72.out).mono ?_); rintro e w' ⟨rfl, ⟨nd, rfl⟩⟩; refine ⟨_, rfl, ?_⟩; have hcz89 := Z.c3 BK473.out; obtain ⟨Ao90, co90, eo90⟩ := Kd.N_slice HO_103.out; subst eo90; obtain ⟨Ao91, co91, eo91⟩ := Kd.R_slice HO_4.out; subst eo91) | (go_at_call 19; (with_reducible refine (impl_ReachOf.calls k3 t458 _ _ t459 _ _ x103_2 _ _ t465 t468 t501 _ ?q1 ?q2 ?q3 ?q4 ?q5 ?q6 A74.out).mono ?_); (case q1 => exact Z.rr HO_113); (case q2 => exact (Kd.R_reads' HO_113.out).2.1); (case q3 => repeat (first | exact (Kd.N_reads' HO_103.out).2.2 | (with_reducible refine Kd.C_alloc ?_ _) | (with_reducible refine Kd.C_drewN ?_ _) | (with_reducible refine Kd.C_drew ?_))); (case q4 => exact (Kd.N_reads' HO_103.out).2.1); (case q5 => exact Z.rr HO_4); (case q6 => exact (Kd.R_reads' HO_4.out).2.1); rintro e w92 ⟨v502, rfl, ho0, hb⟩; replace HO_107 := Z.k (Kd.N_elder' (by (with_reducible repeat (first | apply Kd.N_alloc | apply Kd.N_drewN | apply Kd.N_drew)); exact HO_107.out) (Kd.R_base ho0) hb); replace HO_103 := Z.k (Kd.N_elder' (by (with_reducible repeat (first | apply Kd.N_alloc | apply Kd.N_drewN | apply Kd.N_drew)); exact HO_103.out) (Kd.R_base ho0) hb); have HO503 := Z.k (Kd.R_lower (Kd.R_new' (Kd.R_new' (Kd.R_new' ho0 (Kd.R_lt (by (with_reducible repeat (first | apply Kd.R_alloc | apply Kd.R_drewN | apply Kd.R_drew)); exact HO_4.out))) (Kd.R_lt (by (with_reducible repeat (first | apply Kd.R_alloc | apply Kd.R_drewN | apply Kd.R_drew)); exact HO_109.out))) (Kd.R_lt (by (with_reducible repeat (first | apply Kd.R_alloc | apply Kd.R_drewN | apply Kd.R_drew)); exact HO_113.out))) (below_size (by repeat (first | (with_reducible first | exact HB.out | apply below_alloc | apply pw_below_drewN | apply below_drew1 | refine below_set ?_ GE469.out | refine below_set ?_ GE473.out) | exact HB.out)))); replace HO_4 := Z.k (Kd.R_elder' (by (with_reducible repeat (first | apply Kd.R_alloc | apply Kd.R_drewN | apply Kd.R_drew)); exact HO_4.out) (Kd.R_base ho0) hb); replace HO_109 := Z.k (Kd.R_elder' (by (with_reducible repeat (first | apply Kd.R_alloc | apply Kd.R_drewN | apply Kd.R_drew)); exact HO_109.out) (Kd.R_base ho0) hb); replace HO_113 := Z.k (Kd.R_elder' (by (with_reducible repeat (first | apply Kd.R_alloc | apply Kd.R_drewN | apply Kd.R_drew)); exact HO_113.out) (Kd.R_base ho0) hb); replace BK469 := Z.bb BK469 hb; replace BK473 := Z.bb BK473 hb; replace HB := Z.k (below_step (by repeat (first | (with_reducible first | exact HB.out | apply below_alloc | apply pw_below_drewN | apply below_drew1 | refine below_set ?_ GE469.out | refine below_set ?_ GE473.out) | exact HB.out)) hb); (try clear hb); (try clear hb2); (try clear hk); (try clear hi); (try clear ho0); obtain ⟨Ao93, co93, eo93⟩ := Kd.R_slice HO503.out; subst eo93))
       go_ret
       exact ⟨by first | rfl | (simp [errW_none, errW_some] <;> rfl) | (simp [*, errW_none, errW_some] <;> rfl), by repeat (first | (with_reducible first | exact HB.out | apply below_alloc | apply pw_below_drewN | apply below_drew1 | refine below_set ?_ GE469.out | refine below_set ?_ GE473.out) | exact HB.out)⟩
      replace c73 := Bool.eq_false_iff.mpr c73
      subst c73
      rw [if_neg (show ¬ (false = true) by decide)] at H
      obtain rfl := Option.some.inj H
      have hnb94 := NB469_473.out
      have hnc94 := NB473_469.out
      have hcz95 := Z.c3 BK469.out
      go_wp2_with (first | ((with_reducible refine gate_callee (f := 18) rfl ?_); refine goesL_ (some 102) rfl rfl Try.func18 (by kernel_rfl) rfl #[] rfl Z.ar ?_; (with_reducible refine (laws_alive.calls  false _ A72.out).mono ?_); rintro e w' ⟨rfl, ⟨nd, rfl⟩⟩; refine ⟨_, rfl, ?_⟩))
      go_ret
      exact ⟨by first | rfl | (simp [errW_none, errW_some] <;> rfl) | (simp [*, errW_none, errW_some] <;> rfl), by repeat (first | (with_reducible first | exact HB.out | apply below_alloc | apply pw_below_drewN | apply below_drew1 | refine below_set ?_ GE469.out | refine below_set ?_ GE473.out) | exact HB.out)⟩

     obtain ⟨c50, H⟩ := Z.ifp H
     have c50b0 := eq_true c50
     have c50b1 : decide (0 ≤ x11_3) = true := decide_eq_true c50
     clear c50
     obtain ⟨c51, H⟩ := Z.ifp H
     have c51b0 := eq_true c51
     have c51b1 : decide (x11_3 ≤ (wrap64 (x11_3 + 1))) = true := decide_eq_true c51
     obtain ⟨c52, H⟩ := Z.ifp H
     have c52b0 := eq_true c52
     have c52b1 : decide ((wrap64 (x11_3 + 1)) ≤ (x103_2.length : Int)) = true := decide_eq_true c52
     obtain ⟨y486, hy486⟩ : ∃ y_ : List (List (S37)), y_ = ((x103_2.take ((wrap64 (x11_3 + 1)) : Int).toNat).drop (x11_3 : Int).toNat) := ⟨_, rfl⟩
     replace H : (if (wrap64 (x11_3 + 1)) ≤ (t465.length : Int) then ((impl_ReachOf.f k3 t458 t459 y486 ((t465.take ((wrap64 (x11_3 + 1)) : Int).toNat).drop (x11_3 : Int).toNat) t468).bind fun t497 => (laws_FnFreeProduct.l2 k3 t465 t468 (wrap64 (x10_3 * (t497.length : Int))) (wrap64 (x11_3 + 1)) t458 t459 t462 t458 t459 x103_2)) else (none)) = some r := by first | (rw [hy486]; with_reducible exact H) | (have H2_ := (Option.bind_some _ _).symm.trans H; rw [hy486]; with_reducible exact H2_) | (have H2_ := (Option.bind_some _ _).symm.trans H; with_reducible exact H2_) | with_reducible exact H | (rw [hy486]; exact H) | exact H
     have Ny486 := Z.k hy486
     clear hy486
     have c53b0 := eq_true (Z.od : 0 ≤ x11_3)
     have c54b0 := eq_true (Z.od : x11_3 ≤ (wrap64 (x11_3 + 1)))
     obtain ⟨c55, H⟩ := Z.ifp H
     have c55b0 := eq_true c55
     have c55b1 : decide ((wrap64 (x11_3 + 1)) ≤ (t465.length : Int)) = true := decide_eq_true c55
     obtain ⟨y492, hy492⟩ : ∃ y_ : List Int, y_ = ((t465.take ((wrap64 (x11_3 + 1)) : Int).toNat).drop (x11_3 : Int).toNat) := ⟨_, rfl⟩
     replace H : ((impl_ReachOf.f k3 t458 t459 y486 y492 t468).bind fun t497 => (laws_FnFreeProduct.l2 k3 t465 t468 (wrap64 (x10_3 * (t497.length : Int))) (wrap64 (x11_3 + 1)) t458 t459 t462 t458 t459 x103_2)) = some r := by first | (rw [hy492]; with_reducible exact H) | (have H2_ := (Option.bind_some _ _).symm.trans H; rw [hy492]; with_reducible exact H2_) | (have H2_ := (Option.bind_some _ _).symm.trans H; with_reducible exact H2_) | with_reducible exact H | (rw [hy492]; exact H) | exact H
     have Ny492 := Z.k hy492
     clear hy492
     revert H; refine Z.bd ?_; rintro t497 A56 H
     try dsimp only at H
     have H' := Z.k H
     clear H
     have hnb57 := NB469_473.out
     have hnc57 := NB473_469.out
     have hcz58 := Z.c3 BK469.out
     try go_wp2
     replace HO_4 := Z.k (Kd.R_drew HO_4.out)
     replace HO_109 := Z.k (Kd.R_drew HO_109.out)
     replace HO_107 := Z.k (Kd.N_drew HO_107.out)
     replace HO_113 := Z.k (Kd.R_drew HO_113.out)
     replace HO_103 := Z.k (Kd.N_drew HO_103.out)
     replace BK469 := Z.k (blk_drew BK469.out)
     replace BK473 := Z.k (blk_drew BK473.out)
     replace HB := Z.k (below_drew1 HB.out)
     obtain ⟨Ao61, co61, eo61⟩ := Kd.N_slice HO_103.out
     (first | subst eo61 | (injection eo61 with f1_ f2_ f3_; have f4_ := f1_.symm; have f5_ := f3_.symm; clear f1_ f2_ f3_; subst f4_; subst f5_))
     have q60 : ((wrap64 (x11_3 + 1)) : Int) ≤ ((x103_2.length : Int) : Int) := Z.od
     obtain ⟨i060, hi060, _, hsz60, _⟩ := info_parts info34
     have hroom60 : x103_2.length ≤ co61 := (Kd.N_reads' HO_103.out).2.1
     have hC60 : Kd.F (Kd.slice 37 k37) _ _ Ao61 x103_2.length x103_2 := (Kd.V_at (base := w.heap.size) (Kd.N_V HO_103.out)).2.2
     have ql60 : (x11_3 : Int) ≤ ((wrap64 (x11_3 + 1)) : Int) := Z.od
     have q060 : (0 : Int) ≤ (x11_3 : Int) := Z.od
     have hcut60 := cut_mid (P := Try.prog) 26 34 .i64 .i64 Try.underlying26 hi060 1 hsz60 Ao61 x103_2.length co61 x11_3 (wrap64 (x11_3 + 1)) q060 ql60 q60 hroom60
     have hr60 := Kd.F_mid (lo := (x11_3 : Int).toNat) (hi := ((wrap64 (x11_3 + 1)) : Int).toNat) (c := co61) hC60 (by omega) (by omega) hroom60
     obtain ⟨A60, hA60⟩ : ∃ A1, A1 = (if co61 = (x11_3 : Int).toNat then Ao61 else (Ao61 : Option Addr).map (·.add ((x11_3 : Int).toNat * 1))) := ⟨_, rfl⟩
     obtain ⟨c60, hc60⟩ : ∃ c1, c1 = co61 - (x11_3 : Int).toNat := ⟨_, rfl⟩
     have hy60 : y486.length = ((wrap64 (x11_3 + 1)) : Int).toNat - (x11_3 : Int).toNat := (by rw [Ny486.out, List.length_drop, List.length_take] <;> omega)
     rw [show ((x103_2).take ((wrap64 (x11_3 + 1)) : Int).toNat).drop (x11_3 : Int).toNat = y486 from Ny486.out.symm] at hr60
     replace hr60 : Kd.F (Kd.slice 37 k37) _ _ A60 y486.length y486 := (by rw [hA60]; exact hr60)
     rw [← hy60, ← hA60, ← hc60] at hcut60
     have HO490 := Z.k (show Kd.V (Kd.slice 37 k37) 34 _ w.heap.size _ (.slice A60 y486.length c60) y486 from Kd.V_mk (by rw [hy60, hc60]; exact Nat.sub_le_sub_right (Nat.le_trans (by omega) hroom60) _) hr60)
     have HC490 := Z.k (show y486.length ≤ c60 from by rw [hy60, hc60]; exact Nat.sub_le_sub_right (Nat.le_trans (by omega) hroom60) _)
     clear hr60 hC60 hroom60 hi060 hsz60 hc60
     have KY60 := Z.k hy60
     have KA60 := Z.k hA60
     clear hy60 hA60
     replace q60 := eq_true q60
     refine start_ (n := 11) (S := fun w' => w'.cell? ⟨gb469, 0, none⟩ = some (.int .i64 t458) ∧ w'.cell? ⟨gb469, 1, none⟩ = some (.slice Ao8 t459.length co8) ∧ w'.cell? ⟨gb469, 2, none⟩ = some (.slice Ao9 t462.length co9) ∧ w'.cell? ⟨gb473, 0, none⟩ = some (.int .i64 t458) ∧ w'.cell? ⟨gb473, 1, none⟩ = some (.slice Ao8 t459.length co8) ∧ w'.cell? ⟨gb473, 2, none⟩ = some (.slice Ao61 x103_2.length co61)) (ds := []) (Z.mb 11 0) (by kernel_rfl) rfl rfl ⟨Z.b BK469 0, Z.b BK469 1, Z.b BK469 2, Z.b BK473 0, Z.b BK473 1, Z.b BK473 2⟩ (fun hHeld => ?_); refine with_tabW laws_FnFreeProduct.tab20 laws_FnFreeProduct.bits20 (fun HT_ HW_ => ?_)
     generalize wr.drew = w59 at HO_4 HO_109 HO_107 HO_113 HO_103 BK469 BK473 HB HO490 hHeld ⊢
     refine Z.pv 0 82 11 1 HT_.out ?_
     refine Z.pv 2 84 11 5 HT_.out ?_
     refine Z.pv 4 86 11 21 HT_.out ?_
     refine Z.pv 5 87 11 53 HT_.out ?_
     refine Z.pv 6 88 11 117 HT_.out ?_
     refine Z.t6 1 83 11 119 HT_.out HW_.out hHeld ?_
     refine Z.t6 3 85 11 127 HT_.out HW_.out hHeld ?_
     refine Z.pv 7 89 11 255 HT_.out ?_
     refine Z.pv 8 90 11 511 HT_.out ?_
     refine one_ (i := 9) (N := some 12) (Z.mb 11 1023) rfl rfl (one_of HT_.out (by kernel_rfl)) (by decide) (fun K hK => ?_)
     refine box_step ?hg (N := 12) ?hd (cs := #[.int .i64 0, .slice none 0 0, .slice none 0 0]) (t := 28) ?hr ?_; (case hd | hg => rfl); (case hr => first | (go_simp; done) | (go_simp; rfl))
     intro gb491 hg w62 hbox hb
     replace HO_4 := Z.rb HO_4 hb
     replace HO_109 := Z.rb HO_109 hb
     replace HO_107 := Z.k (Kd.N_below (Kd.N_elderB (by (with_reducible repeat (first | apply Kd.N_alloc | apply Kd.N_drewN | apply Kd.N_drew)); exact HO_107.out) gb491 (Nat.le_of_eq hg.symm)) hb)
     replace HO_113 := Z.rb HO_113 hb
     replace HO_103 := Z.k (Kd.N_below (Kd.N_elderB (by (with_reducible repeat (first | apply Kd.N_alloc | apply Kd.N_drewN | apply Kd.N_drew)); exact HO_103.out) gb491 (Nat.le_of_eq hg.symm)) hb)
     replace HO490 := Z.k (Kd.V_below (Kd.V_elderB (by (with_reducible repeat (first | apply Kd.V_alloc | apply Kd.V_drewN | apply Kd.V_drew)); exact HO490.out) gb491 (Nat.le_of_eq hg.symm)) hb)
     have BK491 := Z.k (hbox)
     have GW491 := Z.k ((by rw [hg]; exact (below_size (by repeat (first | (with_reducible first | exact HB.out | apply below_alloc | apply pw_below_drewN | apply below_drew1 | refine below_set ?_ GE469.out | refine below_set ?_ GE473.out) | exact HB.out))) : w.heap.size ≤ gb491))
     have GE491 := Z.k ((by rw [hg]; exact (below_size (by repeat (first | (with_reducible first | exact HB.out | apply below_alloc | apply pw_below_drewN | apply below_drew1 | refine below_set ?_ GE469.out | refine below_set ?_ GE473.out) | exact HB.out))) : w.heap.size ≤ gb491))
     replace HB := Z.k (below_step (by repeat (first | (with_reducible first | exact HB.out | apply below_alloc | apply pw_below_drewN | apply below_drew1 | refine below_set ?_ GE469.out | refine below_set ?_ GE473.out) | exact HB.out)) hb)
     have NB469_491 := Z.nl hg BK469
     have NB491_469 := Z.ng hg BK469
     replace BK469 := Z.bb BK469 hb
     have NB473_491 := Z.nl hg BK473
     have NB491_473 := Z.ng hg BK473
     replace BK473 := Z.bb BK473 hb
     clear hb hbox hg
     refine hK.out _ _ ⟨Z.b BK469 0, Z.b BK469 1, Z.b BK469 2, Z.b BK473 0, Z.b BK473 1, Z.b BK473 2⟩ (fun hHeld => ?_)
     clear hK K
     refine Z.nm ?_
     refine one_ (i := 10) (N := none) #[true, true, true, true, true, true, true, true, true, true, true] rfl rfl (one_of HT_.out (by kernel_rfl)) (by decide) (fun K hK => ?_)
     have hs63 : w62.cell? ⟨gb491, 0, none⟩ = some (.int .i64 0) := Z.b BK491 0
     have hfs63 := blk_frozen BK491.out 0
     have hns63_0 := NB469_491.out
     have hns63_1 := NB473_491.out
     have hms63_0 := NB491_469.out
     have hms63_1 := NB491_473.out
     have hs64 : w62.cell? ⟨gb491, 1, none⟩ = some (.slice none 0 0) := Z.b BK491 1
     have hfs64 := blk_frozen BK491.out 1
     have hns64_0 := NB469_491.out
     have hns64_1 := NB473_491.out
     have hms64_0 := NB491_469.out
     have hms64_1 := NB491_473.out
     have hs65 : w62.cell? ⟨gb491, 2, none⟩ = some (.slice none 0 0) := Z.b BK491 2
     have hfs65 := blk_frozen BK491.out 2
     have hns65_0 := NB469_491.out
     have hns65_1 := NB473_491.out
     have hms65_0 := NB491_469.out
     have hms65_1 := NB491_473.out
     refine skip_ (w1 := ?_) (by rfl) rfl ?_ ?_
     rotate_left
     ·go_simp
      rfl
     refine hK.out _ _ ⟨(Z.f3 NB469_491.out (hHeld.1)), (Z.f3 NB469_491.out (hHeld.2.1)), (Z.f3 NB469_491.out (hHeld.2.2.1)), (Z.f3 NB473_491.out (hHeld.2.2.2.1)), (Z.f3 NB473_491.out (hHeld.2.2.2.2.1)), (Z.f3 NB473_491.out (hHeld.2.2.2.2.2))⟩ (fun hHeld => ?_)
     clear hK K
     refine done_ (done_of HT_.out (by kernel_rfl)) ?_
     try go_wp2
     have n0_ : Aside0 (Kd.R (Kd.int .i64) 3 (((w62.setCell ⟨gb491, 0, none⟩ (.int .i64 t458)).setCell ⟨gb491, 1, none⟩ (.slice Ao8 t459.length co8)).setCell ⟨gb491, 2, none⟩ (.slice A60 y486.length c60)) w.heap.size (fun k_ => some k_ ≠ (.slice Ao8 t459.length co8 : Value).ownBlock ∧ some k_ ≠ (.slice Ao8 t459.length co8 : Value).ownBlock) v466 t465) := ⟨by (with_reducible repeat (first | apply Kd.R_alloc | apply Kd.R_drewN | apply Kd.R_drew)); exact Kd.R_mono (Kd.R_far (p := ⟨gb491, 2, none⟩) (Kd.R_far (p := ⟨gb491, 1, none⟩) (Kd.R_far (p := ⟨gb491, 0, none⟩) (Kd.R_types HO_4.out BK491.out (by decide)) (fun _ hk => hk.2) (.int .i64 t458)) (fun _ hk => hk.2) (.slice Ao8 t459.length co8)) (fun _ hk => hk.2) (.slice A60 y486.length c60)) (fun _ hk => ⟨hk.1.1, hk.1.2⟩)⟩
     have n1_ : Aside0 (Kd.R (Kd.int .i64) 3 (((w62.setCell ⟨gb491, 0, none⟩ (.int .i64 t458)).setCell ⟨gb491, 1, none⟩ (.slice Ao8 t459.length co8)).setCell ⟨gb491, 2, none⟩ (.slice A60 y486.length c60)) w.heap.size (fun k_ => some k_ ≠ (v466 : Value).ownBlock) (.slice Ao8 t459.length co8) t459) := ⟨by (with_reducible repeat (first | apply Kd.R_alloc | apply Kd.R_drewN | apply Kd.R_drew)); exact Kd.R_mono (Kd.R_far (p := ⟨gb491, 2, none⟩) (Kd.R_far (p := ⟨gb491, 1, none⟩) (Kd.R_far (p := ⟨gb491, 0, none⟩) (Kd.R_types HO_109.out BK491.out (by decide)) (fun _ hk => hk.2) (.int .i64 t458)) (fun _ hk => hk.2) (.slice Ao8 t459.length co8)) (fun _ hk => hk.2) (.slice A60 y486.length c60)) (fun _ hk => hk.1)⟩
     have n2_ : Aside0 (Kd.N (Kd.slice 37 k37) 34 (((w62.setCell ⟨gb491, 0, none⟩ (.int .i64 t458)).setCell ⟨gb491, 1, none⟩ (.slice Ao8 t459.length co8)).setCell ⟨gb491, 2, none⟩ (.slice A60 y486.length c60)) w.heap.size (fun k_ => some k_ ≠ (v466 : Value).ownBlock ∧ some k_ ≠ (.slice Ao8 t459.length co8 : Value).ownBlock ∧ some k_ ≠ (.slice Ao8 t459.length co8 : Value).ownBlock ∧ some k_ ≠ (.slice Ao61 x103_2.length co61 : Value).ownBlock ∧ k_ ≠ gb469 ∧ k_ ≠ gb473 ∧ k_ ≠ gb491) (.slice Ao9 t462.length co9) t462) := ⟨by (with_reducible repeat (first | apply Kd.N_alloc | apply Kd.N_drewN | apply Kd.N_drew)); exact Kd.N_mono (Kd.N_far (p := ⟨gb491, 2, none⟩) (Kd.N_far (p := ⟨gb491, 1, none⟩) (Kd.N_far (p := ⟨gb491, 0, none⟩) (Kd.N_mono HO_107.out (fun k_ hk => (⟨hk, hk.2⟩ : _ ∧ k_ ≠ gb491))) (fun _ hk => hk.2) (.int .i64 t458)) (fun _ hk => hk.2) (.slice Ao8 t459.length co8)) (fun _ hk => hk.2) (.slice A60 y486.length c60)) (fun _ hk => ⟨hk.1.1.1, ⟨hk.1.1.2.1, ⟨hk.1.1.2.2.1, ⟨hk.1.1.2.2.2.1, ⟨hk.1.1.2.2.2.2.1, ⟨hk.1.1.2.2.2.2.2, hk.1.2⟩⟩⟩⟩⟩⟩)⟩
     have n3_ : Aside0 (Kd.R (Kd.int .i64) 3 (((w62.setCell ⟨gb491, 0, none⟩ (.int .i64 t458)).setCell ⟨gb491, 1, none⟩ (.slice Ao8 t459.length co8)).setCell ⟨gb491, 2, none⟩ (.slice A60 y486.length c60)) w.heap.size (fun k_ => some k_ ≠ (v466 : Value).ownBlock) (.slice Ao8 t459.length co8) t459) := ⟨by (with_reducible repeat (first | apply Kd.R_alloc | apply Kd.R_drewN | apply Kd.R_drew)); exact Kd.R_mono (Kd.R_far (p := ⟨gb491, 2, none⟩) (Kd.R_far (p := ⟨gb491, 1, none⟩) (Kd.R_far (p := ⟨gb491, 0, none⟩) (Kd.R_types HO_113.out BK491.out (by decide)) (fun _ hk => hk.2) (.int .i64 t458)) (fun _ hk => hk.2) (.slice Ao8 t459.length co8)) (fun _ hk => hk.2) (.slice A60 y486.length c60)) (fun _ hk => hk.1)⟩
     have n4_ : Aside0 (Kd.N (Kd.slice 37 k37) 34 (((w62.setCell ⟨gb491, 0, none⟩ (.int .i64 t458)).setCell ⟨gb491, 1, none⟩ (.slice Ao8 t459.length co8)).setCell ⟨gb491, 2, none⟩ (.slice A60 y486.length c60)) w.heap.size (fun k_ => some k_ ≠ (v466 : Value).ownBlock ∧ some k_ ≠ (.slice Ao8 t459.length co8 : Value).ownBlock ∧ some k_ ≠ (.slice Ao9 t462.length co9 : Value).ownBlock ∧ some k_ ≠ (.slice Ao8 t459.length co8 : Value).ownBlock ∧ k_ ≠ gb469 ∧ k_ ≠ gb473 ∧ k_ ≠ gb491) (.slice Ao61 x103_2.length co61) x103_2) := ⟨by (with_reducible repeat (first | apply Kd.N_alloc | apply Kd.N_drewN | apply Kd.N_drew)); exact Kd.N_mono (Kd.N_far (p := ⟨gb491, 2, none⟩) (Kd.N_far (p := ⟨gb491, 1, none⟩) (Kd.N_far (p := ⟨gb491, 0, none⟩) (Kd.N_mono HO_103.out (fun k_ hk => (⟨hk, hk.2⟩ : _ ∧ k_ ≠ gb491))) (fun _ hk => hk.2) (.int .i64 t458)) (fun _ hk => hk.2) (.slice Ao8 t459.length co8)) (fun _ hk => hk.2) (.slice A60 y486.length c60)) (fun _ hk => ⟨hk.1.1.1, ⟨hk.1.1.2.1, ⟨hk.1.1.2.2.1, ⟨hk.1.1.2.2.2.1, ⟨hk.1.1.2.2.2.2.1, ⟨hk.1.1.2.2.2.2.2, hk.1.2⟩⟩⟩⟩⟩⟩)⟩
     have n5_ : Aside0 (Kd.V (Kd.slice 37 k37) 34 (((w62.setCell ⟨gb491, 0, none⟩ (.int .i64 t458)).setCell ⟨gb491, 1, none⟩ (.slice Ao8 t459.length co8)).setCell ⟨gb491, 2, none⟩ (.slice A60 y486.length c60)) w.heap.size (fun k_ => some k_ ≠ (v466 : Value).ownBlock ∧ some k_ ≠ (.slice Ao8 t459.length co8 : Value).ownBlock ∧ some k_ ≠ (.slice Ao9 t462.length co9 : Value).ownBlock ∧ some k_ ≠ (.slice Ao8 t459.length co8 : Value).ownBlock ∧ k_ ≠ gb469 ∧ k_ ≠ gb473 ∧ k_ ≠ gb491) (.slice A60 y486.length c60) y486) := ⟨by (with_reducible repeat (first | apply Kd.V_alloc | apply Kd.V_drewN | apply Kd.V_drew)); exact Kd.V_mono (Kd.V_far (p := ⟨gb491, 2, none⟩) (Kd.V_far (p := ⟨gb491, 1, none⟩) (Kd.V_far (p := ⟨gb491, 0, none⟩) (Kd.V_mono HO490.out (fun k_ hk => (⟨hk, hk.2⟩ : _ ∧ k_ ≠ gb491))) (fun _ hk => hk.2) (.int .i64 t458)) (fun _ hk => hk.2) (.slice Ao8 t459.length co8)) (fun _ hk => hk.2) (.slice A60 y486.length c60)) (fun _ hk => ⟨hk.1.1.1, ⟨hk.1.1.2.1, ⟨hk.1.1.2.2.1, ⟨hk.1.1.2.2.2.1, ⟨hk.1.1.2.2.2.2.1, ⟨hk.1.1.2.2.2.2.2, hk.1.2⟩⟩⟩⟩⟩⟩)⟩
     have n6_ : Aside0 ((((w62.setCell ⟨gb491, 0, none⟩ (.int .i64 t458)).setCell ⟨gb491, 1, none⟩ (.slice Ao8 t459.length co8)).setCell ⟨gb491, 2, none⟩ (.slice A60 y486.length c60)).heap[gb469]? = some (.cells #[.int .i64 t458, .slice Ao8 t459.length co8, .slice Ao9 t462.length co9] 28 (0, 0))) := ⟨by (with_reducible repeat (first | refine blk_drewN ?_ _ | refine blk_drew ?_ | refine blk_alloc ?_ _)); refine blk_far ?_ NB469_491.out _; (with_reducible repeat (first | refine blk_drewN ?_ _ | refine blk_drew ?_ | refine blk_alloc ?_ _)); refine blk_far ?_ NB469_491.out _; (with_reducible repeat (first | refine blk_drewN ?_ _ | refine blk_drew ?_ | refine blk_alloc ?_ _)); refine blk_far ?_ NB469_491.out _; (with_reducible repeat (first | refine blk_drewN ?_ _ | refine blk_drew ?_ | refine blk_alloc ?_ _)); exact BK469.out⟩
     have n7_ : Aside0 ((((w62.setCell ⟨gb491, 0, none⟩ (.int .i64 t458)).setCell ⟨gb491, 1, none⟩ (.slice Ao8 t459.length co8)).setCell ⟨gb491, 2, none⟩ (.slice A60 y486.length c60)).heap[gb473]? = some (.cells #[.int .i64 t458, .slice Ao8 t459.length co8, .slice Ao61 x103_2.length co61] 28 (0, 0))) := ⟨by (with_reducible repeat (first | refine blk_drewN ?_ _ | refine blk_drew ?_ | refine blk_alloc ?_ _)); refine blk_far ?_ NB473_491.out _; (with_reducible repeat (first | refine blk_drewN ?_ _ | refine blk_drew ?_ | refine blk_alloc ?_ _)); refine blk_far ?_ NB473_491.out _; (with_reducible repeat (first | refine blk_drewN ?_ _ | refine blk_drew ?_ | refine blk_alloc ?_ _)); refine blk_far ?_ NB473_491.out _; (with_reducible repeat (first | refine blk_drewN ?_ _ | refine blk_drew ?_ | refine blk_alloc ?_ _)); exact BK473.out⟩
     have n8_ : Aside0 ((((w62.setCell ⟨gb491, 0, none⟩ (.int .i64 t458)).setCell ⟨gb491, 1, none⟩ (.slice Ao8 t459.length co8)).setCell ⟨gb491, 2, none⟩ (.slice A60 y486.length c60)).heap[gb491]? = some (.cells #[.int .i64 t458, .slice Ao8 t459.length co8, .slice A60 y486.length c60] 28 (0, 0))) := ⟨by (with_reducible repeat (first | refine blk_drewN ?_ _ | refine blk_drew ?_ | refine blk_alloc ?_ _)); refine blk_put (cs := #[.int .i64 t458, .slice Ao8 t459.length co8, .slice none 0 0]) ?_ 2 _ rfl; (with_reducible repeat (first | refine blk_drewN ?_ _ | refine blk_drew ?_ | refine blk_alloc ?_ _)); refine blk_put (cs := #[.int .i64 t458, .slice none 0 0, .slice none 0 0]) ?_ 1 _ rfl; (with_reducible repeat (first | refine blk_drewN ?_ _ | refine blk_drew ?_ | refine blk_alloc ?_ _)); refine blk_put (cs := #[.int .i64 0, .slice none 0 0, .slice none 0 0]) ?_ 0 _ rfl; (with_reducible repeat (first | refine blk_drewN ?_ _ | refine blk_drew ?_ | refine blk_alloc ?_ _)); exact BK491.out⟩
     have n9_ : Aside0 (Below w.heap.size w (((w62.setCell ⟨gb491, 0, none⟩ (.int .i64 t458)).setCell ⟨gb491, 1, none⟩ (.slice Ao8 t459.length co8)).setCell ⟨gb491, 2, none⟩ (.slice A60 y486.length c60))) := ⟨by repeat (first | (with_reducible first | exact HB.out | apply below_alloc | apply pw_below_drewN | apply below_drew1 | refine below_set ?_ GE469.out | refine below_set ?_ GE473.out | refine below_set ?_ GE491.out) | exact HB.out)⟩
     (try clear HO_4)
     (try clear HO_109)
     (try clear HO_107)
     (try clear HO_113)
     (try clear HO_103)
     (try clear HO490)
     (try clear BK469)
     (try clear BK473)
     (try clear BK491)
     (try clear HB)
     generalize (((w62.setCell ⟨gb491, 0, none⟩ (.int .i64 t458)).setCell ⟨gb491, 1, none⟩ (.slice Ao8 t459.length co8)).setCell ⟨gb491, 2, none⟩ (.slice A60 y486.length c60)) = w66 at n0_ n1_ n2_ n3_ n4_ n5_ n6_ n7_ n8_ n9_ ⊢
     have HO_4 := n0_
     have HO_109 := n1_
     have HO_107 := n2_
     have HO_113 := n3_
     have HO_103 := n4_
     have HO490 := n5_
     have BK469 := n6_
     have BK473 := n7_
     have BK491 := n8_
     have HB := n9_
     clear n0_ n1_ n2_ n3_ n4_ n5_ n6_ n7_ n8_ n9_
     replace HO_4 := Z.k (Kd.R_drew HO_4.out)
     replace HO_109 := Z.k (Kd.R_drew HO_109.out)
     replace HO_107 := Z.k (Kd.N_drew HO_107.out)
     replace HO_113 := Z.k (Kd.R_drew HO_113.out)
     replace HO_103 := Z.k (Kd.N_drew HO_103.out)
     replace HO490 := Z.k (Kd.V_drew HO490.out)
     replace BK469 := Z.k (blk_drew BK469.out)
     replace BK473 := Z.k (blk_drew BK473.out)
     replace BK491 := Z.k (blk_drew BK491.out)
     replace HB := Z.k (below_drew1 HB.out)
     obtain ⟨Ao69, co69, eo69⟩ := Kd.R_slice HO_4.out
     (first | subst eo69 | (injection eo69 with f1_ f2_ f3_; have f4_ := f1_.symm; have f5_ := f3_.symm; clear f1_ f2_ f3_; subst f4_; subst f5_))
     have q68 : ((wrap64 (x11_3 + 1)) : Int) ≤ ((t465.length : Int) : Int) := Z.od
     obtain ⟨i068, hi068, _, hsz68, _⟩ := info_parts info3
     have hroom68 : t465.length ≤ co69 := (Kd.R_reads' HO_4.out).2.1
     have hC68 : Kd.F (Kd.int .i64) _ _ Ao69 t465.length t465 := (Kd.V_at (base := w.heap.size) (Kd.R_V (Kd.R_types (Kd.R_types (Kd.R_types (Kd.R_apart' (Kd.R_apart' (HO_4.out) (Kd.N_typed HO_107.out) (by decide)) (Kd.N_typed HO_103.out) (by decide)) BK469.out (by decide)) BK473.out (by decide)) BK491.out (by decide)))).2.2
     have ql68 : (x11_3 : Int) ≤ ((wrap64 (x11_3 + 1)) : Int) := Z.od
     have q068 : (0 : Int) ≤ (x11_3 : Int) := Z.od
     have hcut68 := cut_mid (P := Try.prog) 23 3 .i64 .i64 Try.underlying23 hi068 1 hsz68 Ao69 t465.length co69 x11_3 (wrap64 (x11_3 + 1)) q068 ql68 q68 hroom68
     have hr68 := Kd.F_mid (lo := (x11_3 : Int).toNat) (hi := ((wrap64 (x11_3 + 1)) : Int).toNat) (c := co69) hC68 (by omega) (by omega) hroom68
     obtain ⟨A68, hA68⟩ : ∃ A1, A1 = (if co69 = (x11_3 : Int).toNat then Ao69 else (Ao69 : Option Addr).map (·.add ((x11_3 : Int).toNat * 1))) := ⟨_, rfl⟩
     obtain ⟨c68, hc68⟩ : ∃ c1, c1 = co69 - (x11_3 : Int).toNat := ⟨_, rfl⟩
     have hy68 : y492.length = ((wrap64 (x11_3 + 1)) : Int).toNat - (x11_3 : Int).toNat := (by rw [Ny492.out, List.length_drop, List.length_take] <;> omega)
     rw [show ((t465).take ((wrap64 (x11_3 + 1)) : Int).toNat).drop (x11_3 : Int).toNat = y492 from Ny492.out.symm] at hr68
     replace hr68 : Kd.F (Kd.int .i64) _ _ A68 y492.length y492 := (by rw [hA68]; exact hr68)
     rw [← hy68, ← hA68, ← hc68] at hcut68
     have HO496 := Z.k (show Kd.V (Kd.int .i64) 3 _ w.heap.size _ (.slice A68 y492.length c68) y492 from Kd.V_mk (by rw [hy68, hc68]; exact Nat.sub_le_sub_right (Nat.le_trans (by omega) hroom68) _) hr68)
     have HC496 := Z.k (show y492.length ≤ c68 from by rw [hy68, hc68]; exact Nat.sub_le_sub_right (Nat.le_trans (by omega) hroom68) _)
     clear hr68 hC68 hroom68 hi068 hsz68 hc68
     have KY68 := Z.k hy68
     have KA68 := Z.k hA68
     clear hy68 hA68
     replace q68 := eq_true q68
     refine start_ (n := 12) (S := fun w' => w'.cell? ⟨gb491, 0, none⟩ = some (.int .i64 t458) ∧ w'.cell? ⟨gb491, 1, none⟩ = some (.slice Ao8 t459.length co8) ∧ w'.cell? ⟨gb491, 2, none⟩ = some (.slice A60 y486.length c60)) (ds := []) (Z.mb 12 0) (by kernel_rfl) rfl rfl ⟨Z.b BK491 0, Z.b BK491 1, Z.b BK491 2⟩ (fun hHeld => ?_); refine with_tabW laws_FnFreeProduct.tab21 laws_FnFreeProduct.bits21 (fun HT_ HW_ => ?_)
     generalize w66.drew = w67 at HO_4 HO_109 HO_107 HO_113 HO_103 HO490 BK469 BK473 BK491 HB HO496 hHeld ⊢
     refine Z.pv 0 91 12 1 HT_.out ?_
     refine Z.pv 2 93 12 5 HT_.out ?_
     refine Z.pv 3 94 12 13 HT_.out ?_
     refine Z.pv 4 95 12 29 HT_.out ?_
     refine Z.pv 5 96 12 61 HT_.out ?_
     refine Z.pv 6 97 12 125 HT_.out ?_
     refine Z.pv 7 98 12 253 HT_.out ?_
     refine Z.t3 1 92 12 255 HT_.out HW_.out hHeld ?_
     refine one_ (i := 8) (N := some 99) (Z.mb 12 511) rfl rfl (one_of HT_.out (by kernel_rfl)) (by decide) (fun K hK => ?_)
     refine goes_ Try.func19 (by kernel_rfl) rfl #[.agg #[.int .i64 t458, .slice Ao8 t459.length co8, .slice A60 y486.length c60], .slice A68 y492.length c68, .int .i64 t468] (by rfl) rfl rfl Z.ar ?_
     with_reducible refine (impl_ReachOf.calls k3 t458 _ _ t459 _ _ y486 _ _ y492 t468 t497 _ ?q1 ?q2 ?q3 ?q4 ?q5 ?q6 A56.out).mono ?_
     (case q1 => exact Z.rr HO_109)
     (case q2 => exact (Kd.R_reads' HO_109.out).2.1)
     (case q3 => repeat (first | exact (Kd.V_reads' HO490.out).2.2 | (with_reducible refine Kd.C_alloc ?_ _) | (with_reducible refine Kd.C_drewN ?_ _) | (with_reducible refine Kd.C_drew ?_)))
     (case q4 => exact (Kd.V_reads' HO490.out).2.1)
     (case q5 => repeat (first | exact (Kd.V_reads' HO496.out).2.2 | (with_reducible refine Kd.C_alloc ?_ _) | (with_reducible refine Kd.C_drewN ?_ _) | (with_reducible refine Kd.C_drew ?_)))
     (case q6 => exact (Kd.V_reads' HO496.out).2.1)
     rintro e w70 ⟨v498, rfl, ho0, hb⟩
     refine ⟨_, rfl, ?_⟩
     replace HO_107 := Z.k (Kd.N_elder' (by (with_reducible repeat (first | apply Kd.N_alloc | apply Kd.N_drewN | apply Kd.N_drew)); exact HO_107.out) (Kd.R_base ho0) hb)
     replace HO_103 := Z.k (Kd.N_elder' (by (with_reducible repeat (first | apply Kd.N_alloc | apply Kd.N_drewN | apply Kd.N_drew)); exact HO_103.out) (Kd.R_base ho0) hb)
     replace HO490 := Z.k (Kd.V_elder' (by (with_reducible repeat (first | apply Kd.V_alloc | apply Kd.V_drewN | apply Kd.V_drew)); exact HO490.out) (Kd.R_base ho0) hb)
     replace HO496 := Z.k (Kd.V_elder' (by (with_reducible repeat (first | apply Kd.V_alloc | apply Kd.V_drewN | apply Kd.V_drew)); exact HO496.out) (Kd.R_base ho0) hb)
     have HO499 := Z.k (Kd.R_lower (Kd.R_new' (Kd.R_new' (Kd.R_new' ho0 (Kd.R_lt (by (with_reducible repeat (first | apply Kd.R_alloc | apply Kd.R_drewN | apply Kd.R_drew)); exact HO_4.out))) (Kd.R_lt (by (with_reducible repeat (first | apply Kd.R_alloc | apply Kd.R_drewN | apply Kd.R_drew)); exact HO_109.out))) (Kd.R_lt (by (with_reducible repeat (first | apply Kd.R_alloc | apply Kd.R_drewN | apply Kd.R_drew)); exact HO_113.out))) (below_size (by repeat (first | (with_reducible first | exact HB.out | apply below_alloc | apply pw_below_drewN | apply below_drew1 | refine below_set ?_ GE469.out | refine below_set ?_ GE473.out | refine below_set ?_ GE491.out) | exact HB.out))))
     replace HO_4 := Z.k (Kd.R_elder' (by (with_reducible repeat (first | apply Kd.R_alloc | apply Kd.R_drewN | apply Kd.R_drew)); exact HO_4.out) (Kd.R_base ho0) hb)
     replace HO_109 := Z.k (Kd.R_elder' (by (with_reducible repeat (first | apply Kd.R_alloc | apply Kd.R_drewN | apply Kd.R_drew)); exact HO_109.out) (Kd.R_base ho0) hb)
     replace HO_113 := Z.k (Kd.R_elder' (by (with_reducible repeat (first | apply Kd.R_alloc | apply Kd.R_drewN | apply Kd.R_drew)); exact HO_113.out) (Kd.R_base ho0) hb)
     replace BK469 := Z.bb BK469 hb
     replace BK473 := Z.bb BK473 hb
     replace BK491 := Z.bb BK491 hb
     replace HB := Z.k (below_step (by repeat (first | (with_reducible first | exact HB.out | apply below_alloc | apply pw_below_drewN | apply below_drew1 | refine below_set ?_ GE469.out | refine below_set ?_ GE473.out | refine below_set ?_ GE491.out) | exact HB.out)) hb)
     (try clear hb)
     (try clear hb2)
     (try clear hk)
     (try clear hi)
     (try clear ho0)
     obtain ⟨Ao71, co71, eo71⟩ := Kd.R_slice HO499.out
     (first | subst eo71 | (injection eo71 with f1_ f2_ f3_; have f4_ := f1_.symm; have f5_ := f3_.symm; clear f1_ f2_ f3_; subst f4_; subst f5_))
     refine hK.out _ _ ⟨Z.b BK491 0, Z.b BK491 1, Z.b BK491 2⟩ (fun hHeld => ?_)
     clear hK K
     refine Z.nm ?_
     refine Z.pv 9 100 12 1023 HT_.out ?_
     refine Z.pv 10 101 12 2047 HT_.out ?_
     refine Z.pv 11 10 12 4095 HT_.out ?_
     refine done_ (done_of HT_.out (by kernel_rfl)) ?_
     try go_wp2
     go_roundg k3
     case measure => have := HJ3.out; have := HK2.out; have := HK3.out; omega
     case rel => exact ⟨(wrap64 (x10_3 * (t497.length : Int))), (wrap64 (x11_3 + 1)), (by first | rfl | (simp; done) | (simp [*]; done)), (by first | rfl | (simp; done) | (simp [*]; done)), H', ⟨by have := HJ3.out; have := HK2.out; have := HK3.out; omega⟩, ⟨by (with_reducible repeat (first | apply Kd.R_alloc | apply Kd.R_drewN | apply Kd.R_drew)); exact Kd.R_mono HO_4.out (fun _ hk => ⟨hk.1.1, hk.1.2⟩)⟩, ⟨by (with_reducible repeat (first | apply Kd.R_alloc | apply Kd.R_drewN | apply Kd.R_drew)); exact Kd.R_mono HO_109.out (fun _ hk => hk.1)⟩, ⟨by (with_reducible repeat (first | apply Kd.N_alloc | apply Kd.N_drewN | apply Kd.N_drew)); exact Kd.N_mono HO_107.out (fun _ hk => ⟨hk.1.1, ⟨hk.1.2.1, ⟨hk.1.2.2.1, ⟨hk.1.2.2.2.1, ⟨hk.1.2.2.2.2.1, hk.1.2.2.2.2.2.1⟩⟩⟩⟩⟩)⟩, ⟨by (with_reducible repeat (first | apply Kd.R_alloc | apply Kd.R_drewN | apply Kd.R_drew)); exact Kd.R_mono HO_113.out (fun _ hk => hk.1)⟩, ⟨by (with_reducible repeat (first | apply Kd.N_alloc | apply Kd.N_drewN | apply Kd.N_drew)); exact Kd.N_mono HO_103.out (fun _ hk => ⟨hk.1.1, ⟨hk.1.2.1, ⟨hk.1.2.2.1, ⟨hk.1.2.2.2.1, ⟨hk.1.2.2.2.2.1, hk.1.2.2.2.2.2.1⟩⟩⟩⟩⟩)⟩, ⟨by (with_reducible repeat (first | refine blk_drewN ?_ _ | refine blk_drew ?_ | refine blk_alloc ?_ _)); exact BK469.out⟩, ⟨by (with_reducible repeat (first | refine blk_drewN ?_ _ | refine blk_drew ?_ | refine blk_alloc ?_ _)); exact BK473.out⟩, ⟨by repeat (first | (with_reducible first | exact HB.out | apply below_alloc | apply pw_below_drewN | apply below_drew1 | refine below_set ?_ GE469.out | refine below_set ?_ GE473.out | refine below_set ?_ GE491.out) | exact HB.out)⟩⟩
/-- THE ONE PURE STATEMENT of laws_FnFreeProduct: yours. -/
def laws_FnFreeProduct.Pure : Prop := ∀ (l0 : List Int), l0.length ≤ maxLen → l0.length * 1 ≤ 140737488351232 → (∀ x ∈ l0, (Lit.int .u8 x).wf = true) → ∃ k, laws_FnFreeProduct.f k l0 = some true
theorem laws_FnFreeProduct.walk (P : laws_FnFreeProduct.Pure) (a0 : Option Addr) (len0 cap0 : Nat) (z0 : List Int) (w : World) (w0 : (a0 = none ∧ len0 = 0 ∧ cap0 = 0 ∧ z0 = []) ∨ ∃ x, a0 = some x ∧ len0 ≤ cap0 ∧ cap0 ≤ maxLen ∧ z0.length = cap0 ∧ (∀ i, i < z0.length → w.cell? (x.add i) = some (.int .u8 (z0.getD i 0))) ∧ ∀ n ∈ z0, (Lit.int .u8 n).wf = true) (y0 : len0 * 1 ≤ 140737488351232) :
  Calls Try.prog 3 #[.slice a0 len0 cap0] w fun e w' => e = .returned (.bool true) ∧ Below w.heap.size w w' := by
 obtain ⟨l0, rfl, hr0, hm0, hw0, hc0⟩ := ReadsInt.ofRowC w0
 obtain ⟨k, h⟩ := P l0 hm0 y0 hw0
 refine (laws_FnFreeProduct.calls k _ _ l0 true w (Kd.C_of_reads (d := (0 : Int)) (h1 := fun _ => rfl) hr0) hc0 h).mono ?_
 rintro e w' ⟨rfl, hd⟩
 exact ⟨rfl, hd⟩

end Go.Proofs.Ytkogboechfieeaa.PAll

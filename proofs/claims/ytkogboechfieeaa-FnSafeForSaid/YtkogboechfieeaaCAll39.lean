/- Walks of functions that laws of this seat reach, in the form of the print. -/
import Derived.Test.YtkogboechfieeaaCAll0
import Derived.Test.YtkogboechfieeaaCAll1
import Derived.Test.YtkogboechfieeaaCAll3
import Derived.Test.YtkogboechfieeaaCAll37
import Derived.Test.YtkogboechfieeaaZ
-- PRINTED
namespace Go.Proofs.Ytkogboechfieeaa.PAll
open Go.RowKit Go.Proofs.YtkogboechfieeaaW.PrintWords Go.Proofs.YtkogboechfieeaaW.PrintLast Go.Proofs.YtkogboechfieeaaW.PrintMore
attribute [local go_sem] max2_int min2_int max_two min_two max_three min_three max_four min_four
set_option linter.unusedVariables false
set_option linter.unusedSimpArgs false

/-! ### spec_l20Atom: function 107 -/
def spec_l20Atom.f (k : Nat) (s0_0 : List Int) (s0_1 : Int) (a1_0 : Int) (l1_1 : List Int) : Option ((List (S111)) × Int) := if (l1_1.length : Int) = 0 then (some ((([] : List (S111))), s0_1)) else ((spec_l20Rd_pick.f k s0_0 s0_1 (l1_1.length : Int)).bind fun bt422 => (if 0 ≤ bt422.1 then (if bt422.1 < (l1_1.length : Int) then ((spec_l1Heads.f k (mx (rd l1_1 bt422.1) 0)).bind fun t425 => ((spec_l20Rd_pick.f k s0_0 bt422.2 (mx t425 1)).bind fun bt426 => ((some (([(⟨0, bt422.1, wrap64 (1 + bt426.1)⟩ : S111)] : List (S111)) : List (S111))).bind fun y428 => ((spec_l20Rd_pick.f k s0_0 bt426.2 5).bind fun bt431 => (if bt431.1 = 0 then ((spec_l20Rd_pick.f k s0_0 bt431.2 (l1_1.length : Int)).bind fun bt433 => ((spec_l20Rd_pick.f k s0_0 bt433.2 2).bind fun bt435 => ((some (([(⟨0, bt433.1, 1⟩ : S111), (⟨wrap64 (1 + bt435.1), 0, 0⟩ : S111)] : List (S111)) : List (S111))).bind fun y437 => (if y428.length + y437.length < 5864062014805 then (some ((y428 ++ y437), bt435.2)) else (none))))) else (some (y428, bt431.2))))))) else (none)) else (none)))
set_option maxHeartbeats 8000000 in
set_option maxRecDepth 100000 in
theorem spec_l20Atom.calls (k : Nat) (g : Nat) (s0_0 : List Int) (s0_1 : Int) (a1_0 : Int) (A1_1 : Option Addr) (c1_1 : Nat) (l1_1 : List Int) (r1 : List (S111)) (r2 : Int) (w0 w : World) (hI : IsS92 w0 w g s0_0 s0_1) (hB : Below w0.heap.size w0 w) (hr1_1 : Kd.C (Kd.int .i64) w A1_1 l1_1.length l1_1) (hc1_1 : l1_1.length ≤ c1_1) (hf1_1 : ∀ ad, A1_1 = some ad → 0 < l1_1.length → ad.block ≠ g) (h : spec_l20Atom.f k s0_0 s0_1 a1_0 l1_1 = some (r1, r2)) :
  Calls Try.prog 107 #[.pointer (some ⟨g, 0, none⟩), .agg #[.int .i64 a1_0, .slice A1_1 l1_1.length c1_1]] w fun e w' => ∃ v0_ : Value, e = .returned (v0_) ∧ Kd.R k111 111 w' w.heap.size (fun _ => True) v0_ r1 ∧ IsS92 w0 w' g s0_0 r2 ∧ Below w0.heap.size w0 w' ∧ KeepBut w w' g none := by
 have hu25 := Try.underlying25
 have hu35 := Try.underlying111
 have HR1_1 := Z.k hr1_1
 have HC1_1 := Z.k hc1_1
 clear hr1_1 hc1_1
 have HI0 := Z.k hI
 have HK := Z.k (KeepBut.refl w g none)
 have HL := Z.k hB.size
 clear hI
 have HW0 := Z.k hB.size
 have HB := Z.k hB
 clear hB
 have H := h
 clear h
 unfold spec_l20Atom.f at H
 by_cases c3 : (l1_1.length : Int) = 0
 ·rw [if_pos c3] at H
  have c3b0 : ((l1_1.length : Int) == 0) = true := beq_iff_eq.mpr c3
  have c3b1 : ((l1_1.length : Int) != 0) = false := bne_eq_false_iff_eq.mpr c3
  clear c3
  obtain ⟨y419, hy419⟩ : ∃ y_ : List (S111), y_ = (([] : List (S111))) := ⟨_, rfl⟩
  replace H : (some (y419, s0_1)) = some (r1, r2) := by (rw [hy419]; with_reducible exact H)
  have Ny419 := Z.k hy419
  clear hy419
  simp only [Option.some.injEq, Prod.mk.injEq] at H
  obtain ⟨rfl, rfl⟩ := H
  go_enter Try.func107, Try.ntmps107
  go_wp2_with (first | ((with_reducible refine gate_dst (N := 3) rfl ?_); refine box_event ?hg (N := 3) ?hd (cs := #[.int .i64 a1_0, .slice A1_1 l1_1.length c1_1]) (t := 25) ?hr ?_; (case hd | hg => rfl); (case hr => (go_simp; done)); intro gb418 hg w4 hbox hb; replace HB := Z.k (below_step HB.out hb); have BK418 := Z.k hbox; have GW418 := Z.k ((by rw [hg]; exact (keep_size (w := w) (g := g) (row := none) HK.out) : w.heap.size ≤ gb418)); have GE418 := Z.k ((Nat.le_trans HW0.out (by rw [hg]; exact (keep_size (w := w) (g := g) (row := none) HK.out) : w.heap.size ≤ gb418) : w0.heap.size ≤ gb418)); replace HK := Z.k (KeepBut.trans HK.out (KeepBut.of_below hb g none) (.inl rfl)); have NB0_418 := Z.k ((by rw [hg]; exact Nat.ne_of_lt (IsS92.lt HI0.out) : g ≠ gb418)); have NB418_0 := Z.k ((by rw [hg]; exact Nat.ne_of_gt (IsS92.lt HI0.out) : gb418 ≠ g)); replace HI0 := Z.k (IsS92.below HI0.out hb); clear hb hbox hg; have hnb5 := NB418_0.out; have hnc5 := NB0_418.out; have hcz6 := Z.c2 BK418.out) | ((with_reducible refine gate_dst (N := 12) rfl ?_); refine Kd.R_lit k111 _ 111 ?hg (N := 12) ?hd (xs := ([] : List (S111))) (inner := []) (ok := fun _ => True) (okp := fun _ => True) ?hr ?hp (fun _ hk => hk) trivial (Below.refl _ _) (Nat.le_refl _) (by simp) ?_; (case hd | hg => rfl); (case hr => (go_simp; done)); (case hp => exact (Reps.none _ _)); intro v420 w7 ho8 hb hg_ hnew_; clear hg_ hnew_; (rw [← Ny419.out] at ho8); have HO421 := Z.k (Kd.R_lower ho8 (keep_size (w := w) (g := g) (row := none) HK.out)); replace BK418 := Z.bb BK418 hb; replace HK := Z.k (KeepBut.trans HK.out (KeepBut.of_below hb g none) (.inl rfl)); replace HB := Z.k (below_step HB.out hb); replace HI0 := Z.k (IsS92.below HI0.out hb); clear hb ho8))
  go_ret
  exact ⟨_, by rfl, by exact HO421.out, HI0.out, HB.out, HK.out⟩
 ·rw [if_neg c3] at H
  have c3b0 : ((l1_1.length : Int) == 0) = false := beq_eq_false_iff_ne.mpr c3
  have c3b1 : ((l1_1.length : Int) != 0) = true := bne_iff_ne.mpr c3
  have c3b2 : ¬ (l1_1 = []) := fun h_ => c3 (by rw [h_]; rfl)
  replace H := Option.bind_eq_some_iff.mp H
  obtain ⟨⟨t422, t423⟩, A90, H⟩ := H
  try dsimp only at H
  have A9 := Z.k A90
  clear A90
  obtain ⟨c10, H⟩ := Z.ifp H
  have c10b0 : decide (0 ≤ t422) = true := decide_eq_true c10
  clear c10
  obtain ⟨c11, H⟩ := Z.ifp H
  have c11b0 : decide (t422 < (l1_1.length : Int)) = true := decide_eq_true c11
  clear c11
  obtain ⟨ji12, hji12⟩ : ∃ j_ : Int, (mx (rd l1_1 t422) 0) = j_ := ⟨_, rfl⟩
  replace H : ((spec_l1Heads.f k (ji12)).bind fun t425 => ((spec_l20Rd_pick.f k s0_0 t423 (mx t425 1)).bind fun bt426 => ((some (([(⟨0, t422, wrap64 (1 + bt426.1)⟩ : S111)] : List (S111)) : List (S111))).bind fun y428 => ((spec_l20Rd_pick.f k s0_0 bt426.2 5).bind fun bt431 => (if bt431.1 = 0 then ((spec_l20Rd_pick.f k s0_0 bt431.2 (l1_1.length : Int)).bind fun bt433 => ((spec_l20Rd_pick.f k s0_0 bt433.2 2).bind fun bt435 => ((some (([(⟨0, bt433.1, 1⟩ : S111), (⟨wrap64 (1 + bt435.1), 0, 0⟩ : S111)] : List (S111)) : List (S111))).bind fun y437 => (if y428.length + y437.length < 5864062014805 then (some ((y428 ++ y437), bt435.2)) else (none))))) else (some (y428, bt431.2))))))) = some (r1, r2) := by (rw [hji12] at H; exact H)
  (try (have hji12l : 0 ≤ ji12 := by (rw [← hji12]; unfold mx; (repeat' split) <;> omega)))
  (try (have hji12m : 0 ≤ ji12 := by omega))
  have hji12_ : (if (rd l1_1 t422) < 0 then 0 else (rd l1_1 t422)) = ji12 := hji12
  replace H := Option.bind_eq_some_iff.mp H
  obtain ⟨t425, A130, H⟩ := H
  have A13 := Z.k A130
  clear A130
  obtain ⟨ji14, hji14⟩ : ∃ j_ : Int, (mx t425 1) = j_ := ⟨_, rfl⟩
  replace H : ((spec_l20Rd_pick.f k s0_0 t423 (ji14)).bind fun bt426 => ((some (([(⟨0, t422, wrap64 (1 + bt426.1)⟩ : S111)] : List (S111)) : List (S111))).bind fun y428 => ((spec_l20Rd_pick.f k s0_0 bt426.2 5).bind fun bt431 => (if bt431.1 = 0 then ((spec_l20Rd_pick.f k s0_0 bt431.2 (l1_1.length : Int)).bind fun bt433 => ((spec_l20Rd_pick.f k s0_0 bt433.2 2).bind fun bt435 => ((some (([(⟨0, bt433.1, 1⟩ : S111), (⟨wrap64 (1 + bt435.1), 0, 0⟩ : S111)] : List (S111)) : List (S111))).bind fun y437 => (if y428.length + y437.length < 5864062014805 then (some ((y428 ++ y437), bt435.2)) else (none))))) else (some (y428, bt431.2)))))) = some (r1, r2) := by (rw [hji14] at H; exact H)
  (try (have hji14l : 1 ≤ ji14 := by (rw [← hji14]; unfold mx; (repeat' split) <;> omega)))
  (try (have hji14m : 0 ≤ ji14 := by omega))
  have hji14_ : (if t425 < 1 then 1 else t425) = ji14 := hji14
  replace H := Option.bind_eq_some_iff.mp H
  obtain ⟨⟨t426, t427⟩, A150, H⟩ := H
  try dsimp only at H
  have A15 := Z.k A150
  clear A150
  obtain ⟨y428, hy428⟩ : ∃ y_ : List (S111), y_ = (([(⟨0, t422, wrap64 (1 + t426)⟩ : S111)] : List (S111))) := ⟨_, rfl⟩
  replace H : ((spec_l20Rd_pick.f k s0_0 t427 5).bind fun bt431 => (if bt431.1 = 0 then ((spec_l20Rd_pick.f k s0_0 bt431.2 (l1_1.length : Int)).bind fun bt433 => ((spec_l20Rd_pick.f k s0_0 bt433.2 2).bind fun bt435 => ((some (([(⟨0, bt433.1, 1⟩ : S111), (⟨wrap64 (1 + bt435.1), 0, 0⟩ : S111)] : List (S111)) : List (S111))).bind fun y437 => (if y428.length + y437.length < 5864062014805 then (some ((y428 ++ y437), bt435.2)) else (none))))) else (some (y428, bt431.2)))) = some (r1, r2) := by (have H2_ := (Option.bind_some _ _).symm.trans H; rw [hy428]; with_reducible exact H2_)
  have Ny428 := Z.k hy428
  clear hy428
  replace H := Option.bind_eq_some_iff.mp H
  obtain ⟨⟨t431, t432⟩, A160, H⟩ := H
  try dsimp only at H
  have A16 := Z.k A160
  clear A160
  by_cases c17 : t431 = 0
  ·rw [if_pos c17] at H
   have c17b0 : (t431 == 0) = true := beq_iff_eq.mpr c17
   have c17b1 : (t431 != 0) = false := bne_eq_false_iff_eq.mpr c17
   clear c17
   replace H := Option.bind_eq_some_iff.mp H
   obtain ⟨⟨t433, t434⟩, A180, H⟩ := H
   try dsimp only at H
   have A18 := Z.k A180
   clear A180
   replace H := Option.bind_eq_some_iff.mp H
   obtain ⟨⟨t435, t436⟩, A190, H⟩ := H
   try dsimp only at H
   have A19 := Z.k A190
   clear A190
   obtain ⟨y437, hy437⟩ : ∃ y_ : List (S111), y_ = (([(⟨0, t433, 1⟩ : S111), (⟨wrap64 (1 + t435), 0, 0⟩ : S111)] : List (S111))) := ⟨_, rfl⟩
   replace H : (if y428.length + y437.length < 5864062014805 then (some ((y428 ++ y437), t436)) else (none)) = some (r1, r2) := by (have H2_ := (Option.bind_some _ _).symm.trans H; rw [hy437]; with_reducible exact H2_)
   have Ny437 := Z.k hy437
   clear hy437
   obtain ⟨c20, H⟩ := Z.ifp H
   have LMc20 := Z.k c20
   clear c20
   obtain ⟨y440, hy440⟩ : ∃ y_ : List (S111), y_ = (y428 ++ y437) := ⟨_, rfl⟩
   replace H : (some (y440, t436)) = some (r1, r2) := by (rw [hy440]; with_reducible exact H)
   have Ny440 := Z.k hy440
   clear hy440
   simp only [Option.some.injEq, Prod.mk.injEq] at H
   obtain ⟨rfl, rfl⟩ := H
   go_enter Try.func107, Try.ntmps107
   go_wp2_with (first | ((with_reducible refine gate_dst (N := 3) rfl ?_); refine box_event ?hg (N := 3) ?hd (cs := #[.int .i64 a1_0, .slice A1_1 l1_1.length c1_1]) (t := 25) ?hr ?_; (case hd | hg => rfl); (case hr => (go_simp; done)); intro gb418 hg w21 hbox hb; replace HB := Z.k (below_step HB.out hb); have BK418 := Z.k hbox; have GW418 := Z.k ((by rw [hg]; exact (keep_size (w := w) (g := g) (row := none) HK.out) : w.heap.size ≤ gb418)); have GE418 := Z.k ((Nat.le_trans HW0.out (by rw [hg]; exact (keep_size (w := w) (g := g) (row := none) HK.out) : w.heap.size ≤ gb418) : w0.heap.size ≤ gb418)); replace HK := Z.k (KeepBut.trans HK.out (KeepBut.of_below hb g none) (.inl rfl)); have NB0_418 := Z.k ((by rw [hg]; exact Nat.ne_of_lt (IsS92.lt HI0.out) : g ≠ gb418)); have NB418_0 := Z.k ((by rw [hg]; exact Nat.ne_of_gt (IsS92.lt HI0.out) : gb418 ≠ g)); replace HI0 := Z.k (IsS92.below HI0.out hb); clear hb hbox hg; have hnb22 := NB418_0.out; have hnc22 := NB0_418.out; have hcz23 := Z.c2 BK418.out) | ((with_reducible refine gate_callee (f := 73) rfl ?_); refine goesL_ (some 17) rfl rfl Try.func73 (by kernel_rfl) rfl #[.pointer (some ⟨g, 0, none⟩), .int .i64 (l1_1.length : Int)] rfl Z.ar ?_; (with_reducible refine (spec_l20Rd_pick.calls k g s0_0 s0_1 (l1_1.length : Int) t422 t423 w0 _ ?q1 ?q2 A9.out).mono ?_); (case q1 => exact HI0.out); (case q2 => exact HB.out); rintro e w24 ⟨rfl, hi, hb, hk⟩; refine ⟨_, rfl, ?_⟩; replace BK418 := Z.kb hk BK418 NB418_0; replace HK := Z.k (KeepBut.trans HK.out hk (.inl rfl)); replace HB := Z.k hb; replace HI0 := Z.k hi; (try clear hb hk hi); have hcz25 := Z.c2 BK418.out; have p424 : 0 ≤ (t422 : Int) := Z.od; have q424 : t422 < (l1_1.length : Int) := Z.od; obtain ⟨ad424, e424, hx424_0⟩ := Kd.at_int HR1_1.out t422 p424 q424; cases e424; replace hx424_0 := keep_cell HK.out hx424_0 (by (rw [add_block]; exact hf1_1 _ rfl (by omega))); replace p424 := eq_true p424; replace q424 := eq_true q424) | ((with_reducible refine gate_callee (f := 108) rfl ?_); refine goesL_ (some 26) rfl rfl Try.func108 (by kernel_rfl) rfl #[.int .i64 ji12] rfl (by (try simp only [List.map_toArray, List.map_cons, List.map_nil]); rfl) ?_; (with_reducible refine (spec_l1Heads.calls k ji12 t425 _ A13.out).mono ?_); rintro e w' ⟨rfl, ⟨nd, rfl⟩⟩; refine ⟨_, rfl, ?_⟩) | ((with_reducible refine gate_callee (f := 73) rfl ?_); refine goesL_ (some 28) rfl rfl Try.func73 (by kernel_rfl) rfl #[.pointer (some ⟨g, 0, none⟩), .int .i64 ji14] rfl (by (try simp only [List.map_toArray, List.map_cons, List.map_nil]); rfl) ?_; (with_reducible refine (spec_l20Rd_pick.calls k g s0_0 t423 ji14 t426 t427 w0 _ ?q1 ?q2 A15.out).mono ?_); (case q1 => repeat ((with_reducible first | exact HI0.out | apply IsS92.drewN))); (case q2 => repeat ((with_reducible first | exact HB.out | apply pw_below_drewN))); rintro e w26 ⟨rfl, hi, hb, hk⟩; refine ⟨_, rfl, ?_⟩; replace BK418 := Z.kb hk BK418 NB418_0; replace HK := Z.k (KeepBut.trans (by repeat ((with_reducible first | exact HK.out | apply keep_drewN))) hk (.inl rfl)); replace HB := Z.k hb; replace HI0 := Z.k hi; (try clear hb hk hi)) | ((with_reducible refine gate_dst (N := 31) rfl ?_); refine Kd.R_lit k111 _ 111 ?hg (N := 31) ?hd (xs := ([(⟨0, t422, wrap64 (1 + t426)⟩ : S111)] : List (S111))) (inner := [.int .i64 0, .int .i64 t422, .int .i64 (wrap64 (1 + t426))]) (ok := fun _ => True) (okp := fun _ => True) ?hr ?hp (fun _ hk => hk) trivial (Below.refl _ _) (Nat.le_refl _) (by simp) ?_; (case hd | hg => rfl); (case hr => (go_simp; done)); (case hp => exact (Reps.c3 (show Kd.M k111 _ _ _ (⟨0, t422, wrap64 (1 + t426)⟩ : S111) [.int .i64 0, .int .i64 t422, .int .i64 (wrap64 (1 + t426))] from (k111_mkM _ _ _ (⟨0, t422, wrap64 (1 + t426)⟩ : S111) )) (Reps.none _ _))); intro v429 w27 ho28 hb hg_ hnew_; clear hg_ hnew_; (rw [← Ny428.out] at ho28); have HO430 := Z.k (Kd.R_lower ho28 (keep_size (w := w) (g := g) (row := none) HK.out)); replace BK418 := Z.bb BK418 hb; replace HK := Z.k (KeepBut.trans HK.out (KeepBut.of_below hb g none) (.inl rfl)); replace HB := Z.k (below_step HB.out hb); replace HI0 := Z.k (IsS92.below HI0.out hb); clear hb ho28) | ((with_reducible refine gate_callee (f := 73) rfl ?_); refine goesL_ (some 33) rfl rfl Try.func73 (by kernel_rfl) rfl #[.pointer (some ⟨g, 0, none⟩), .int .i64 5] rfl Z.ar ?_; (with_reducible refine (spec_l20Rd_pick.calls k g s0_0 t427 5 t431 t432 w0 _ ?q1 ?q2 A16.out).mono ?_); (case q1 => exact HI0.out); (case q2 => exact HB.out); rintro e w29 ⟨rfl, hi, hb, hk⟩; refine ⟨_, rfl, ?_⟩; replace BK418 := Z.kb hk BK418 NB418_0; replace HO430 := rk HI0 HO430 hk; replace HK := Z.k (KeepBut.trans HK.out hk (.inl rfl)); replace HB := Z.k hb; replace HI0 := Z.k hi; (try clear hb hk hi); have hcz30 := Z.c2 BK418.out) | ((with_reducible refine gate_callee (f := 73) rfl ?_); refine goesL_ (some 39) rfl rfl Try.func73 (by kernel_rfl) rfl #[.pointer (some ⟨g, 0, none⟩), .int .i64 (l1_1.length : Int)] rfl Z.ar ?_; (with_reducible refine (spec_l20Rd_pick.calls k g s0_0 t432 (l1_1.length : Int) t433 t434 w0 _ ?q1 ?q2 A18.out).mono ?_); (case q1 => exact HI0.out); (case q2 => exact HB.out); rintro e w31 ⟨rfl, hi, hb, hk⟩; refine ⟨_, rfl, ?_⟩; replace BK418 := Z.kb hk BK418 NB418_0; replace HO430 := rk HI0 HO430 hk; replace HK := Z.k (KeepBut.trans HK.out hk (.inl rfl)); replace HB := Z.k hb; replace HI0 := Z.k hi; (try clear hb hk hi)) | ((with_reducible refine gate_callee (f := 73) rfl ?_); refine goesL_ (some 44) rfl rfl Try.func73 (by kernel_rfl) rfl #[.pointer (some ⟨g, 0, none⟩), .int .i64 2] rfl Z.ar ?_; (with_reducible refine (spec_l20Rd_pick.calls k g s0_0 t434 2 t435 t436 w0 _ ?q1 ?q2 A19.out).mono ?_); (case q1 => exact HI0.out); (case q2 => exact HB.out); rintro e w32 ⟨rfl, hi, hb, hk⟩; refine ⟨_, rfl, ?_⟩; replace BK418 := Z.kb hk BK418 NB418_0; replace HO430 := rk HI0 HO430 hk; replace HK := Z.k (KeepBut.trans HK.out hk (.inl rfl)); replace HB := Z.k hb; replace HI0 := Z.k hi; (try clear hb hk hi)) | ((with_reducible refine gate_dst (N := 47) rfl ?_); refine Kd.R_lit k111 _ 111 ?hg (N := 47) ?hd (xs := ([(⟨0, t433, 1⟩ : S111), (⟨wrap64 (1 + t435), 0, 0⟩ : S111)] : List (S111))) (inner := [.int .i64 0, .int .i64 t433, .int .i64 1, .int .i64 (wrap64 (1 + t435)), .int .i64 0, .int .i64 0]) (ok := fun _ => True) (okp := fun _ => True) ?hr ?hp (fun _ hk => hk) trivial (Below.refl _ _) (Nat.le_refl _) (by simp) ?_; (case hd | hg => rfl); (case hr => (go_simp; done)); (case hp => exact (Reps.c3 (show Kd.M k111 _ _ _ (⟨0, t433, 1⟩ : S111) [.int .i64 0, .int .i64 t433, .int .i64 1] from (k111_mkM _ _ _ (⟨0, t433, 1⟩ : S111) )) (Reps.c3 (show Kd.M k111 _ _ _ (⟨wrap64 (1 + t435), 0, 0⟩ : S111) [.int .i64 (wrap64 (1 + t435)), .int .i64 0, .int .i64 0] from (k111_mkM _ _ _ (⟨wrap64 (1 + t435), 0, 0⟩ : S111) )) (Reps.none _ _)))); intro v438 w33 ho34 hb hg_ hnew_; clear hg_ hnew_; (rw [← Ny437.out] at ho34); have HO439 := Z.k (Kd.R_lower (Kd.R_new' ho34 (Kd.R_lt HO430.out)) (keep_size (w := w) (g := g) (row := none) HK.out)); replace HO430 := Z.k (Kd.R_elder' HO430.out (Kd.R_base ho34) hb); replace BK418 := Z.bb BK418 hb; replace HK := Z.k (KeepBut.trans HK.out (KeepBut.of_below hb g none) (.inl rfl)); replace HB := Z.k (below_step HB.out hb); replace HI0 := Z.k (IsS92.below HI0.out hb); clear hb ho34; obtain ⟨Ao36, co36, eo36⟩ := Kd.R_slice HO439.out; subst eo36) | ((with_reducible refine gate_builtin (b := .append) (xs := #[.tmp 40, .tmp 47]) rfl ?_); at_builtin; refine Kd.R_append_rows k111 w.heap.size rfl (.tmp 40) (.tmp 47) 35 111 (.agg #[(.int .i64 0), (.int .i64 0), (.int .i64 0)]) 24 rfl Try.underlying35 info111 rfl (by decide) (by omega) v429 y428 y437 _ _ _ (fun k_ => some k_ ≠ (.slice Ao36 y437.length co36 : Value).ownBlock) (fun _ => False) rfl rfl ?aO ?aR (fun _ _ h => h) (fun _ h => h.elim) ?aF (Below.refl _ _) ?aS ?aL ?_; (case aR => exact (Kd.R_reads' HO439.out).2.2); (case aF => exact (fun k_ hk => Kd.fresh' (Kd.R_lt HO439.out) k_ hk)); (case aO => exact (Kd.R_mono HO430.out (fun _ hk => hk.2))); (case aS => exact (keep_size (w := w) (g := g) (row := none) HK.out)); (case aL => have := LMc20.out; omega); intro v441 w35 ho hb hg hat; rw [← Ny440.out] at ho; replace BK418 := Z.gb hg HO430 BK418; replace HO439 := Z.k (Kd.R_after (ok := (fun _ => True)) HO439.out hg hat); replace HB := Z.k (below_weaken HB.out HL.out hb); replace HI0 := Z.k (IsS92.grown HI0.out hg (IsS92.own_ne HI0.out HO430.out (by decide))); replace HK := Z.k (KeepBut.trans HK.out (KeepBut.of_grown hg g) (Kd.R_base2 HO430.out)); have HO442 := Z.k ho; clear HO430; clear ho hb hg hat))
   go_ret
   exact ⟨_, by rfl, by exact Kd.R_mono HO442.out (fun _ hk => trivial), HI0.out, HB.out, HK.out⟩
  ·rw [if_neg c17] at H
   have c17b0 : (t431 == 0) = false := beq_eq_false_iff_ne.mpr c17
   have c17b1 : (t431 != 0) = true := bne_iff_ne.mpr c17
   simp only [Option.some.injEq, Prod.mk.injEq] at H
   obtain ⟨rfl, rfl⟩ := H
   go_enter Try.func107, Try.ntmps107
   go_wp2_with (first | ((with_reducible refine gate_dst (N := 3) rfl ?_); refine box_event ?hg (N := 3) ?hd (cs := #[.int .i64 a1_0, .slice A1_1 l1_1.length c1_1]) (t := 25) ?hr ?_; (case hd | hg => rfl); (case hr => (go_simp; done)); intro gb418 hg w37 hbox hb; replace HB := Z.k (below_step HB.out hb); have BK418 := Z.k hbox; have GW418 := Z.k ((by rw [hg]; exact (keep_size (w := w) (g := g) (row := none) HK.out) : w.heap.size ≤ gb418)); have GE418 := Z.k ((Nat.le_trans HW0.out (by rw [hg]; exact (keep_size (w := w) (g := g) (row := none) HK.out) : w.heap.size ≤ gb418) : w0.heap.size ≤ gb418)); replace HK := Z.k (KeepBut.trans HK.out (KeepBut.of_below hb g none) (.inl rfl)); have NB0_418 := Z.k ((by rw [hg]; exact Nat.ne_of_lt (IsS92.lt HI0.out) : g ≠ gb418)); have NB418_0 := Z.k ((by rw [hg]; exact Nat.ne_of_gt (IsS92.lt HI0.out) : gb418 ≠ g)); replace HI0 := Z.k (IsS92.below HI0.out hb); clear hb hbox hg; have hnb38 := NB418_0.out; have hnc38 := NB0_418.out; have hcz39 := Z.c2 BK418.out) | ((with_reducible refine gate_callee (f := 73) rfl ?_); refine goesL_ (some 17) rfl rfl Try.func73 (by kernel_rfl) rfl #[.pointer (some ⟨g, 0, none⟩), .int .i64 (l1_1.length : Int)] rfl Z.ar ?_; (with_reducible refine (spec_l20Rd_pick.calls k g s0_0 s0_1 (l1_1.length : Int) t422 t423 w0 _ ?q1 ?q2 A9.out).mono ?_); (case q1 => exact HI0.out); (case q2 => exact HB.out); rintro e w40 ⟨rfl, hi, hb, hk⟩; refine ⟨_, rfl, ?_⟩; replace BK418 := Z.kb hk BK418 NB418_0; replace HK := Z.k (KeepBut.trans HK.out hk (.inl rfl)); replace HB := Z.k hb; replace HI0 := Z.k hi; (try clear hb hk hi); have hcz41 := Z.c2 BK418.out; have p424 : 0 ≤ (t422 : Int) := Z.od; have q424 : t422 < (l1_1.length : Int) := Z.od; obtain ⟨ad424, e424, hx424_0⟩ := Kd.at_int HR1_1.out t422 p424 q424; cases e424; replace hx424_0 := keep_cell HK.out hx424_0 (by (rw [add_block]; exact hf1_1 _ rfl (by omega))); replace p424 := eq_true p424; replace q424 := eq_true q424) | ((with_reducible refine gate_callee (f := 108) rfl ?_); refine goesL_ (some 26) rfl rfl Try.func108 (by kernel_rfl) rfl #[.int .i64 ji12] rfl (by (try simp only [List.map_toArray, List.map_cons, List.map_nil]); rfl) ?_; (with_reducible refine (spec_l1Heads.calls k ji12 t425 _ A13.out).mono ?_); rintro e w' ⟨rfl, ⟨nd, rfl⟩⟩; refine ⟨_, rfl, ?_⟩) | ((with_reducible refine gate_callee (f := 73) rfl ?_); refine goesL_ (some 28) rfl rfl Try.func73 (by kernel_rfl) rfl #[.pointer (some ⟨g, 0, none⟩), .int .i64 ji14] rfl (by (try simp only [List.map_toArray, List.map_cons, List.map_nil]); rfl) ?_; (with_reducible refine (spec_l20Rd_pick.calls k g s0_0 t423 ji14 t426 t427 w0 _ ?q1 ?q2 A15.out).mono ?_); (case q1 => repeat ((with_reducible first | exact HI0.out | apply IsS92.drewN))); (case q2 => repeat ((with_reducible first | exact HB.out | apply pw_below_drewN))); rintro e w42 ⟨rfl, hi, hb, hk⟩; refine ⟨_, rfl, ?_⟩; replace BK418 := Z.kb hk BK418 NB418_0; replace HK := Z.k (KeepBut.trans (by repeat ((with_reducible first | exact HK.out | apply keep_drewN))) hk (.inl rfl)); replace HB := Z.k hb; replace HI0 := Z.k hi; (try clear hb hk hi)) | ((with_reducible refine gate_dst (N := 31) rfl ?_); refine Kd.R_lit k111 _ 111 ?hg (N := 31) ?hd (xs := ([(⟨0, t422, wrap64 (1 + t426)⟩ : S111)] : List (S111))) (inner := [.int .i64 0, .int .i64 t422, .int .i64 (wrap64 (1 + t426))]) (ok := fun _ => True) (okp := fun _ => True) ?hr ?hp (fun _ hk => hk) trivial (Below.refl _ _) (Nat.le_refl _) (by simp) ?_; (case hd | hg => rfl); (case hr => (go_simp; done)); (case hp => exact (Reps.c3 (show Kd.M k111 _ _ _ (⟨0, t422, wrap64 (1 + t426)⟩ : S111) [.int .i64 0, .int .i64 t422, .int .i64 (wrap64 (1 + t426))] from (k111_mkM _ _ _ (⟨0, t422, wrap64 (1 + t426)⟩ : S111) )) (Reps.none _ _))); intro v429 w43 ho44 hb hg_ hnew_; clear hg_ hnew_; (rw [← Ny428.out] at ho44); have HO430 := Z.k (Kd.R_lower ho44 (keep_size (w := w) (g := g) (row := none) HK.out)); replace BK418 := Z.bb BK418 hb; replace HK := Z.k (KeepBut.trans HK.out (KeepBut.of_below hb g none) (.inl rfl)); replace HB := Z.k (below_step HB.out hb); replace HI0 := Z.k (IsS92.below HI0.out hb); clear hb ho44) | ((with_reducible refine gate_callee (f := 73) rfl ?_); refine goesL_ (some 33) rfl rfl Try.func73 (by kernel_rfl) rfl #[.pointer (some ⟨g, 0, none⟩), .int .i64 5] rfl Z.ar ?_; (with_reducible refine (spec_l20Rd_pick.calls k g s0_0 t427 5 t431 t432 w0 _ ?q1 ?q2 A16.out).mono ?_); (case q1 => exact HI0.out); (case q2 => exact HB.out); rintro e w45 ⟨rfl, hi, hb, hk⟩; refine ⟨_, rfl, ?_⟩; replace BK418 := Z.kb hk BK418 NB418_0; replace HO430 := rk HI0 HO430 hk; replace HK := Z.k (KeepBut.trans HK.out hk (.inl rfl)); replace HB := Z.k hb; replace HI0 := Z.k hi; (try clear hb hk hi)))
   go_ret
   exact ⟨_, by rfl, by exact HO430.out, HI0.out, HB.out, HK.out⟩

end Go.Proofs.Ytkogboechfieeaa.PAll

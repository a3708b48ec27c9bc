/- Walks of functions that laws of this seat reach, in the form of the print. -/
import Derived.Test.YtkogboechfieeaaCAll37
-- PRINTED
namespace Go.Proofs.Ytkogboechfieeaa.PAll
open Go.RowKit Go.Proofs.YtkogboechfieeaaW.PrintWords Go.Proofs.YtkogboechfieeaaW.PrintLast Go.Proofs.YtkogboechfieeaaW.PrintMore
attribute [local go_sem] max2_int min2_int max_two min_two max_three min_three max_four min_four
set_option linter.unusedVariables false
set_option linter.unusedSimpArgs false

/-! ### spec_l20House: function 106 -/
def spec_l20House.l0 : Nat → Int → Int → List Int → Int → Int → List Int → Option (Int × List Int × Int)
 | 0, _, _, _, _, _, _ => none
 | k + 1, x1, x6, x90, x81, x83, x74 => if x6 > 0 then (if 0 ≤ x83 then ((spec_l20Rd_pick.f k x90 x81 (wrap64 ((shl .i64 1 x83) - 1))).bind fun bt84 => (if x74.length < 17592186044416 then (spec_l20House.l0 k x1 (wrap64 (x6 - 1)) x90 bt84.2 x83 (x74 ++ [wrap64 (1 + bt84.1)])) else (none))) else (none)) else ((spec_l20Rd_odd.f k x90 x81 x1).bind fun bt94 => (if bt94.1 = true then ((spec_l20Rd_pick.f k x90 bt94.2 3).bind fun bt79 => (if bt79.1 = 0 then ((some (([0, 7] : List Int) : List Int)).bind fun y82 => ((spec_l20Rd_pick.f k x90 bt79.2 2).bind fun bt80 => (if 0 ≤ bt80.1 then (if bt80.1 < (y82.length : Int) then (some (rd y82 bt80.1, x74, bt80.2)) else (none)) else (none)))) else (if bt79.1 = 1 then (if x74.length < 17592186044416 then (some (x83, (x74 ++ [0]), bt79.2)) else (none)) else (some (x83, (([] : List Int)), bt79.2))))) else (some (x83, x74, bt94.2))))
def spec_l20House.f (k : Nat) (s0_0 : List Int) (s0_1 : Int) (a1 : Int) : Option (Int × List Int × Int) := (spec_l20Rd_pick.f k s0_0 s0_1 5).bind fun bt77 => ((spec_l20Rd_pick.f k s0_0 bt77.2 9).bind fun bt78 => ((spec_l20Rd_pick.f k s0_0 bt78.2 3).bind fun bt95 => (spec_l20House.l0 k a1 (wrap64 (1 + bt95.1)) s0_0 bt95.2 (wrap64 ((wrap64 (1 + bt77.1)) + (wrap64 (Int.tdiv bt78.1 8)))) ([] : List Int))))
def spec_l20House.T5 : Bool × List (List Nat × List Nat) := (true, [([], []), ([0], [0]), ([], []), ([], []), ([3], [3]), ([4], [4]), ([5], [5]), ([2, 6], [2, 6]), ([7], [7]), ([8], [8]), ([1, 9, 7], [1, 9]), ([0, 1, 2, 3, 4, 5, 6, 7, 8, 9, 10], []), ([11, 10, 10, 0, 1, 2, 3, 4, 5, 6, 7, 8, 9, 10], [10, 11])])
def spec_l20House.B5 : List Nat := [0, 1, 0, 0, 8, 24, 56, 124, 252, 508, 1023, 2047, 4095]
theorem spec_l20House.tab5 : rtab .any (opsOf Try.f106 5) = spec_l20House.T5 := by kernel_rfl
theorem spec_l20House.bits5 : waitsOk spec_l20House.T5.2 spec_l20House.B5 = true := by kernel_rfl
set_option maxHeartbeats 8000000 in
set_option maxRecDepth 100000 in
theorem spec_l20House.calls (k : Nat) (g : Nat) (s0_0 : List Int) (s0_1 : Int) (a1 : Int) (r1 : Int) (r2 : List Int) (r3 : Int) (w0 w : World) (hI : IsS92 w0 w g s0_0 s0_1) (hB : Below w0.heap.size w0 w) (h : spec_l20House.f k s0_0 s0_1 a1 = some (r1, r2, r3)) :
  Calls Try.prog 106 #[.pointer (some ⟨g, 0, none⟩), .int .i64 a1] w fun e w' => ∃ v1_ : Value, e = .returned (.agg #[.int .i64 r1, v1_]) ∧ Kd.R (Kd.int .i64) 3 w' w.heap.size (fun _ => True) v1_ r2 ∧ IsS92 w0 w' g s0_0 r3 ∧ Below w0.heap.size w0 w' ∧ KeepBut w w' g none := by
 have hu25 := Try.underlying25
 have HI0 := Z.k hI
 have HK := Z.k (KeepBut.refl w g none)
 have HL := Z.k hB.size
 clear hI
 have HW0 := Z.k hB.size
 have HB := Z.k hB
 clear hB
 have H := h
 clear h
 unfold spec_l20House.f at H
 revert H; refine Z.bd ?_; rintro ⟨t77, t98⟩ A3 H
 try dsimp only at H
 revert H; refine Z.bd ?_; rintro ⟨t78, t99⟩ A4 H
 try dsimp only at H
 revert H; refine Z.bd ?_; rintro ⟨t95, t113⟩ A5 H
 try dsimp only at H
 have H' := Z.k H
 clear H
 go_enter Try.func106, Try.ntmps106
 go_wp2_with (first | ((with_reducible refine gate_dst (N := 4) rfl ?_); refine box_event ?hg (N := 4) ?hd (cs := #[.int .i64 0, .slice none 0 0]) (t := 25) ?hr ?_; (case hd | hg => rfl); (case hr => (go_simp; done)); intro gb75 hg w6 hbox hb; replace HB := Z.k (below_step HB.out hb); have BK75 := Z.k hbox; have GW75 := Z.k ((by rw [hg]; exact (keep_size (w := w) (g := g) (row := none) HK.out) : w.heap.size ≤ gb75)); have GE75 := Z.k ((Nat.le_trans HW0.out (by rw [hg]; exact (keep_size (w := w) (g := g) (row := none) HK.out) : w.heap.size ≤ gb75) : w0.heap.size ≤ gb75)); replace HK := Z.k (KeepBut.trans HK.out (KeepBut.of_below hb g none) (.inl rfl)); have NB0_75 := Z.k ((by rw [hg]; exact Nat.ne_of_lt (IsS92.lt HI0.out) : g ≠ gb75)); have NB75_0 := Z.k ((by rw [hg]; exact Nat.ne_of_gt (IsS92.lt HI0.out) : gb75 ≠ g)); replace HI0 := Z.k (IsS92.below HI0.out hb); clear hb hbox hg) | ((with_reducible refine gate_callee (f := 73) rfl ?_); refine goesL_ (some 8) rfl rfl Try.func73 (by kernel_rfl) rfl #[.pointer (some ⟨g, 0, none⟩), .int .i64 5] rfl Z.ar ?_; (with_reducible refine (spec_l20Rd_pick.calls k g s0_0 s0_1 5 t77 t98 w0 _ ?q1 ?q2 A3.out).mono ?_); (case q1 => exact HI0.out); (case q2 => exact HB.out); rintro e w7 ⟨rfl, hi, hb, hk⟩; refine ⟨_, rfl, ?_⟩; replace BK75 := Z.kb hk BK75 NB75_0; replace HK := Z.k (KeepBut.trans HK.out hk (.inl rfl)); replace HB := Z.k hb; replace HI0 := Z.k hi; (try clear hb hk hi)) | ((with_reducible refine gate_callee (f := 73) rfl ?_); refine goesL_ (some 11) rfl rfl Try.func73 (by kernel_rfl) rfl #[.pointer (some ⟨g, 0, none⟩), .int .i64 9] rfl Z.ar ?_; (with_reducible refine (spec_l20Rd_pick.calls k g s0_0 t98 9 t78 t99 w0 _ ?q1 ?q2 A4.out).mono ?_); (case q1 => exact HI0.out); (case q2 => exact HB.out); rintro e w8 ⟨rfl, hi, hb, hk⟩; refine ⟨_, rfl, ?_⟩; replace BK75 := Z.kb hk BK75 NB75_0; replace HK := Z.k (KeepBut.trans HK.out hk (.inl rfl)); replace HB := Z.k hb; replace HI0 := Z.k hi; (try clear hb hk hi)) | ((with_reducible refine gate_dst (N := 5) rfl ?_); refine box_event ?hg (N := 5) ?hd (cs := #[.int .i64 0, .slice none 0 0]) (t := 25) ?hr ?_; (case hd | hg => rfl); (case hr => (go_simp; done)); intro gb76 hg w9 hbox hb; replace HB := Z.k (below_step HB.out hb); have BK76 := Z.k hbox; have GW76 := Z.k ((by rw [hg]; exact (keep_size (w := w) (g := g) (row := none) HK.out) : w.heap.size ≤ gb76)); have GE76 := Z.k ((Nat.le_trans HW0.out (by rw [hg]; exact (keep_size (w := w) (g := g) (row := none) HK.out) : w.heap.size ≤ gb76) : w0.heap.size ≤ gb76)); replace HK := Z.k (KeepBut.trans HK.out (KeepBut.of_below hb g none) (.inl rfl)); have NB75_76 := Z.nl hg BK75; have NB76_75 := Z.ng hg BK75; replace BK75 := Z.bb BK75 hb; have NB0_76 := Z.k ((by rw [hg]; exact Nat.ne_of_lt (IsS92.lt HI0.out) : g ≠ gb76)); have NB76_0 := Z.k ((by rw [hg]; exact Nat.ne_of_gt (IsS92.lt HI0.out) : gb76 ≠ g)); replace HI0 := Z.k (IsS92.below HI0.out hb); clear hb hbox hg; have hnb10 := NB76_75.out; have hnc10 := NB75_76.out; have hnb11 := NB76_0.out; have hnc11 := NB0_76.out; have hcz12 := Z.c2 BK76.out) | ((with_reducible refine gate_callee (f := 73) rfl ?_); refine goesL_ (some 16) rfl rfl Try.func73 (by kernel_rfl) rfl #[.pointer (some ⟨g, 0, none⟩), .int .i64 3] rfl Z.ar ?_; (with_reducible refine (spec_l20Rd_pick.calls k g s0_0 t99 3 t95 t113 w0 _ ?q1 ?q2 A5.out).mono ?_); (case q1 => repeat ((with_reducible first | exact HI0.out | refine IsS92.far ?_ NB0_76.out _))); (case q2 => repeat ((with_reducible first | exact HB.out | refine below_set ?_ GE76.out))); rintro e w13 ⟨rfl, hi, hb, hk⟩; refine ⟨_, rfl, ?_⟩; replace BK75 := Z.k (KeepBut.blk hk (g' := gb75) (o := .cells #[.int .i64 0, .slice none 0 0] 25 (0, 0)) (by refine blk_far ?_ NB75_76.out _; refine blk_far ?_ NB75_76.out _; exact BK75.out) NB75_0.out (by simp)); replace BK76 := Z.k (KeepBut.blk hk (g' := gb76) (o := .cells #[.int .i64 (wrap64 ((wrap64 (1 + t77)) + (wrap64 (Int.tdiv t78 8)))), .slice none 0 0] 25 (0, 0)) (by refine blk_put (cs := #[.int .i64 (wrap64 ((wrap64 (1 + t77)) + (wrap64 (Int.tdiv t78 8)))), .slice none 0 0]) ?_ 1 _ rfl; refine blk_put (cs := #[.int .i64 0, .slice none 0 0]) ?_ 0 _ rfl; exact BK76.out) NB76_0.out (by simp)); replace HK := Z.k (KeepBut.trans (by repeat ((with_reducible first | exact HK.out | refine keep_far ?_ GW76.out _))) hk (.inl rfl)); replace HB := Z.k hb; replace HI0 := Z.k hi; (try clear hb hk hi)))
 go_loopg [6] k (fun kq v6 w' => ∃ (x6_1 : Int) (x81_1 : Int) (x74_1 : List Int) (u74 : Value), v6 = .int .i64 x6_1 ∧ Aside0 (spec_l20House.l0 kq a1 x6_1 s0_0 x81_1 (wrap64 ((wrap64 (1 + t77)) + (wrap64 (Int.tdiv t78 8)))) x74_1 = some (r1, r2, r3)) ∧ Aside0 (kq ≤ k) ∧ Aside0 (Kd.R (Kd.int .i64) 3 w' w.heap.size (fun _ => True) u74 x74_1) ∧ Aside0 (w'.heap[gb75]? = some (.cells #[.int .i64 0, (.slice none 0 0)] 25 (0, 0))) ∧ Aside0 (w'.heap[gb76]? = some (.cells #[.int .i64 (wrap64 ((wrap64 (1 + t77)) + (wrap64 (Int.tdiv t78 8)))), u74] 25 (0, 0))) ∧ Aside0 (IsS92 w0 w' g s0_0 x81_1) ∧ Aside0 (KeepBut w w' g none) ∧ Aside0 (Below w0.heap.size w0 w'))
 case atStart => exact ⟨(wrap64 (1 + t95)), (t113), (([] : List Int)), (.slice none 0 0), (by rfl), H', ⟨Nat.le_refl _⟩, ⟨by exact Kd.R_nil _ _ _ _ _⟩, ⟨by exact BK75.out⟩, ⟨by exact BK76.out⟩, ⟨HI0.out⟩, ⟨HK.out⟩, ⟨HB.out⟩⟩
 clear H'
 obtain ⟨x6_1, x81_1, x74_1, u74, rfl, HA, HK1, HO_74, BK75, BK76, HI0, HK, HB⟩ := hrel
 cases gk with
 | zero => exact absurd HA.out (by simp [spec_l20House.l0])
 | succ k1 =>
  have H := HA.out
  clear HA
  simp only [spec_l20House.l0] at H
  revert H; refine Z.fm ?_ ?_ <;> intro c14b0 H
  ·revert H; refine Z.bd ?_; rintro ⟨t94, t91⟩ A25 H
   try dsimp only at H
   by_cases c26 : t94 = true
   rotate_left
   ·replace c26 := Bool.eq_false_iff.mpr c26
    subst c26
    rw [if_neg (show ¬ (false = true) by decide)] at H
    simp only [Option.some.injEq, Prod.mk.injEq] at H
    obtain ⟨rfl, rfl, rfl⟩ := H
    go_wp2_with (((with_reducible refine gate_callee (f := 89) rfl ?_); refine goesL_ (some 36) rfl rfl Try.func89 (by kernel_rfl) rfl #[.pointer (some ⟨g, 0, none⟩), .int .i64 a1] rfl Z.ar ?_; (with_reducible refine (spec_l20Rd_odd.calls k1 g s0_0 x81_1 a1 false t91 w0 _ ?q1 ?q2 A25.out).mono ?_); (case q1 => exact HI0.out); (case q2 => exact HB.out); rintro e w66 ⟨rfl, hi, hb, hk⟩; refine ⟨_, rfl, ?_⟩; replace HO_74 := rk HI0 HO_74 hk; replace BK75 := Z.kb hk BK75 NB75_0; replace BK76 := Z.kb hk BK76 NB76_0; replace HK := Z.k (KeepBut.trans HK.out hk (.inl rfl)); replace HB := Z.k hb; replace HI0 := Z.k hi; (try clear hb hk hi); have hnb67 := NB76_75.out; have hnc67 := NB75_76.out; have hnb68 := NB76_0.out; have hnc68 := NB0_76.out; have hcz69 := Z.c2 BK76.out; have hnb70 := NB75_0.out; have hnc70 := NB0_75.out; have hcz71 := Z.c2 BK75.out; obtain ⟨Ao72, co72, eo72⟩ := Kd.R_slice HO_74.out; subst eo72))
    refine bodyPost_ret (results_cell_row rfl _ _ gb75 25 #[.int .i64 (wrap64 ((wrap64 (1 + t77)) + (wrap64 (Int.tdiv t78 8)))), .slice Ao72 x74_1.length co72] (0, 0) _ rfl (by refine blk_put (cs := #[.int .i64 (wrap64 ((wrap64 (1 + t77)) + (wrap64 (Int.tdiv t78 8)))), .slice none 0 0]) ?_ 1 _ rfl; refine blk_put (cs := #[.int .i64 0, .slice none 0 0]) ?_ 0 _ rfl; exact BK75.out) Try.underlying25 rfl (by kernel_rfl)) rfl ?_
    exact ⟨_, by rfl, by exact Kd.R_mono (Kd.R_far (p := ⟨gb75, 1, none⟩) (Kd.R_far (p := ⟨gb75, 0, none⟩) (Kd.R_types HO_74.out BK75.out (by decide)) (fun _ hk => hk.2) (.int .i64 (wrap64 ((wrap64 (1 + t77)) + (wrap64 (Int.tdiv t78 8)))))) (fun _ hk => hk.2) (.slice Ao72 x74_1.length co72)) (fun _ hk => trivial), by repeat ((with_reducible first | exact HI0.out | refine IsS92.far ?_ NB0_75.out _)), by repeat ((with_reducible first | exact HB.out | refine below_set ?_ GE75.out)), by repeat ((with_reducible first | exact HK.out | refine keep_far ?_ GW75.out _))⟩

   subst c26
   rw [if_pos rfl] at H
   revert H; refine Z.bd ?_; rintro ⟨t79, t93⟩ A27 H
   try dsimp only at H
   by_cases c28 : t79 = 0
   ·rw [if_pos c28] at H
    have c28b0 : (t79 == 0) = true := beq_iff_eq.mpr c28
    have c28b1 : (t79 != 0) = false := bne_eq_false_iff_eq.mpr c28
    clear c28
    obtain ⟨y82, hy82⟩ : ∃ y_ : List Int, y_ = (([0, 7] : List Int)) := ⟨_, rfl⟩
    replace H : ((spec_l20Rd_pick.f k1 s0_0 t93 2).bind fun bt80 => (if 0 ≤ bt80.1 then (if bt80.1 < (y82.length : Int) then (some (rd y82 bt80.1, x74_1, bt80.2)) else (none)) else (none))) = some (r1, r2, r3) := by (have H2_ := (Option.bind_some _ _).symm.trans H; rw [hy82]; with_reducible exact H2_)
    have Ny82 := Z.k hy82
    clear hy82
    revert H; refine Z.bd ?_; rintro ⟨t80, t127⟩ A29 H
    try dsimp only at H
    obtain ⟨c30b0, H⟩ := Z.fd H
    obtain ⟨c31b0, H⟩ := Z.fd H
    simp only [Option.some.injEq, Prod.mk.injEq] at H
    obtain ⟨rfl, rfl, rfl⟩ := H
    go_wp2_with (first | ((with_reducible refine gate_callee (f := 89) rfl ?_); refine goesL_ (some 36) rfl rfl Try.func89 (by kernel_rfl) rfl #[.pointer (some ⟨g, 0, none⟩), .int .i64 a1] rfl Z.ar ?_; (with_reducible refine (spec_l20Rd_odd.calls k1 g s0_0 x81_1 a1 true t91 w0 _ ?q1 ?q2 A25.out).mono ?_); (case q1 => exact HI0.out); (case q2 => exact HB.out); rintro e w32 ⟨rfl, hi, hb, hk⟩; refine ⟨_, rfl, ?_⟩; replace HO_74 := rk HI0 HO_74 hk; replace BK75 := Z.kb hk BK75 NB75_0; replace BK76 := Z.kb hk BK76 NB76_0; replace HK := Z.k (KeepBut.trans HK.out hk (.inl rfl)); replace HB := Z.k hb; replace HI0 := Z.k hi; (try clear hb hk hi)) | ((with_reducible refine gate_callee (f := 73) rfl ?_); refine goesL_ (some 38) rfl rfl Try.func73 (by kernel_rfl) rfl #[.pointer (some ⟨g, 0, none⟩), .int .i64 3] rfl Z.ar ?_; (with_reducible refine (spec_l20Rd_pick.calls k1 g s0_0 t91 3 t79 t93 w0 _ ?q1 ?q2 A27.out).mono ?_); (case q1 => exact HI0.out); (case q2 => exact HB.out); rintro e w33 ⟨rfl, hi, hb, hk⟩; refine ⟨_, rfl, ?_⟩; replace HO_74 := rk HI0 HO_74 hk; replace BK75 := Z.kb hk BK75 NB75_0; replace BK76 := Z.kb hk BK76 NB76_0; replace HK := Z.k (KeepBut.trans HK.out hk (.inl rfl)); replace HB := Z.k hb; replace HI0 := Z.k hi; (try clear hb hk hi)) | ((with_reducible refine gate_dst (N := 43) rfl ?_); refine Kd.R_lit (Kd.int .i64) _ 3 ?hg (N := 43) ?hd (xs := ([0, 7] : List Int)) (inner := [.int .i64 0, .int .i64 7]) (ok := fun _ => True) (okp := fun _ => True) ?hr ?hp (fun _ hk => hk) trivial (Below.refl _ _) (Nat.le_refl _) (by simp) ?_; (case hd | hg => rfl); (case hr => (go_simp; done)); (case hp => exact (Reps.one (show Kd.M (Kd.int .i64) _ _ _ 0 [.int .i64 0] from rfl) (Reps.one (show Kd.M (Kd.int .i64) _ _ _ 7 [.int .i64 7] from rfl) (Reps.none _ _)))); intro v124 w34 ho35 hb hg_ hnew_; clear hg_ hnew_; (rw [← Ny82.out] at ho35); have HO96 := Z.k (Kd.R_lower (Kd.R_new' ho35 (Kd.R_lt HO_74.out)) (keep_size (w := w) (g := g) (row := none) HK.out)); replace HO_74 := Z.k (Kd.R_elder' HO_74.out (Kd.R_base ho35) hb); replace BK75 := Z.bb BK75 hb; replace BK76 := Z.bb BK76 hb; replace HK := Z.k (KeepBut.trans HK.out (KeepBut.of_below hb g none) (.inl rfl)); replace HB := Z.k (below_step HB.out hb); replace HI0 := Z.k (IsS92.below HI0.out hb); clear hb ho35) | ((with_reducible refine gate_callee (f := 73) rfl ?_); refine goesL_ (some 45) rfl rfl Try.func73 (by kernel_rfl) rfl #[.pointer (some ⟨g, 0, none⟩), .int .i64 2] rfl Z.ar ?_; (with_reducible refine (spec_l20Rd_pick.calls k1 g s0_0 t93 2 t80 t127 w0 _ ?q1 ?q2 A29.out).mono ?_); (case q1 => exact HI0.out); (case q2 => exact HB.out); rintro e w36 ⟨rfl, hi, hb, hk⟩; refine ⟨_, rfl, ?_⟩; replace HO_74 := rk HI0 HO_74 hk; replace BK75 := Z.kb hk BK75 NB75_0; replace BK76 := Z.kb hk BK76 NB76_0; replace HO96 := rk HI0 HO96 hk; replace HK := Z.k (KeepBut.trans HK.out hk (.inl rfl)); replace HB := Z.k hb; replace HI0 := Z.k hi; (try clear hb hk hi); obtain ⟨Ao37, co37, eo37⟩ := Kd.R_slice HO96.out; subst eo37; have p85 : 0 ≤ (t80 : Int) := Z.od; have q85 : t80 < (y82.length : Int) := Z.od; obtain ⟨ad85, e85, hx85_0⟩ := Kd.at_int (Kd.R_reads' HO96.out).2.2 t80 p85 q85; cases e85; replace p85 := eq_true p85; replace q85 := eq_true q85; have hnb38 := NB76_75.out; have hnc38 := NB75_76.out; have hnb39 := NB76_0.out; have hnc39 := NB0_76.out; have hcz40 := Z.c2 BK76.out; have hnb41 := NB75_0.out; have hnc41 := NB0_75.out; have hcz42 := Z.c2 BK75.out; obtain ⟨Ao43, co43, eo43⟩ := Kd.R_slice HO_74.out; subst eo43))
    refine bodyPost_ret (results_cell_row rfl _ _ gb75 25 #[.int .i64 (rd y82 t80), .slice Ao43 x74_1.length co43] (0, 0) _ rfl (by refine blk_put (cs := #[.int .i64 (rd y82 t80), .slice none 0 0]) ?_ 1 _ rfl; refine blk_put (cs := #[.int .i64 0, .slice none 0 0]) ?_ 0 _ rfl; refine blk_far ?_ NB75_76.out _; exact BK75.out) Try.underlying25 rfl (by kernel_rfl)) rfl ?_
    exact ⟨_, by rfl, by exact Kd.R_mono (Kd.R_far (p := ⟨gb75, 1, none⟩) (Kd.R_far (p := ⟨gb75, 0, none⟩) (Kd.R_far (p := ⟨gb76, 0, none⟩) (Kd.R_types (Kd.R_types HO_74.out BK76.out (by decide)) BK75.out (by decide)) (fun _ hk => hk.1.2) (.int .i64 (rd y82 t80))) (fun _ hk => hk.2) (.int .i64 (rd y82 t80))) (fun _ hk => hk.2) (.slice Ao43 x74_1.length co43)) (fun _ hk => trivial), by repeat ((with_reducible first | exact HI0.out | refine IsS92.far ?_ NB0_75.out _ | refine IsS92.far ?_ NB0_76.out _)), by repeat ((with_reducible first | exact HB.out | refine below_set ?_ GE75.out | refine below_set ?_ GE76.out)), by repeat ((with_reducible first | exact HK.out | refine keep_far ?_ GW75.out _ | refine keep_far ?_ GW76.out _))⟩
   rw [if_neg c28] at H
   have c28b0 : (t79 == 0) = false := beq_eq_false_iff_ne.mpr c28
   have c28b1 : (t79 != 0) = true := bne_iff_ne.mpr c28
   by_cases c44 : t79 = 1
   ·rw [if_pos c44] at H
    have c44b0 : (t79 == 1) = true := beq_iff_eq.mpr c44
    have c44b1 : (t79 != 1) = false := bne_eq_false_iff_eq.mpr c44
    clear c44
    obtain ⟨c45, H⟩ := Z.ifp H
    have LMc45 := Z.k c45
    clear c45
    obtain ⟨y86, hy86⟩ : ∃ y_ : List Int, y_ = (x74_1 ++ [0]) := ⟨_, rfl⟩
    replace H : (some ((wrap64 ((wrap64 (1 + t77)) + (wrap64 (Int.tdiv t78 8)))), y86, t93)) = some (r1, r2, r3) := by (rw [hy86]; with_reducible exact H)
    have Ny86 := Z.k hy86
    clear hy86
    simp only [Option.some.injEq, Prod.mk.injEq] at H
    obtain ⟨rfl, rfl, rfl⟩ := H
    go_wp2_with (first | ((with_reducible refine gate_callee (f := 89) rfl ?_); refine goesL_ (some 36) rfl rfl Try.func89 (by kernel_rfl) rfl #[.pointer (some ⟨g, 0, none⟩), .int .i64 a1] rfl Z.ar ?_; (with_reducible refine (spec_l20Rd_odd.calls k1 g s0_0 x81_1 a1 true t91 w0 _ ?q1 ?q2 A25.out).mono ?_); (case q1 => exact HI0.out); (case q2 => exact HB.out); rintro e w46 ⟨rfl, hi, hb, hk⟩; refine ⟨_, rfl, ?_⟩; replace HO_74 := rk HI0 HO_74 hk; replace BK75 := Z.kb hk BK75 NB75_0; replace BK76 := Z.kb hk BK76 NB76_0; replace HK := Z.k (KeepBut.trans HK.out hk (.inl rfl)); replace HB := Z.k hb; replace HI0 := Z.k hi; (try clear hb hk hi)) | ((with_reducible refine gate_callee (f := 73) rfl ?_); refine goesL_ (some 38) rfl rfl Try.func73 (by kernel_rfl) rfl #[.pointer (some ⟨g, 0, none⟩), .int .i64 3] rfl Z.ar ?_; (with_reducible refine (spec_l20Rd_pick.calls k1 g s0_0 t91 3 t79 t93 w0 _ ?q1 ?q2 A27.out).mono ?_); (case q1 => exact HI0.out); (case q2 => exact HB.out); rintro e w47 ⟨rfl, hi, hb, hk⟩; refine ⟨_, rfl, ?_⟩; replace HO_74 := rk HI0 HO_74 hk; replace BK75 := Z.kb hk BK75 NB75_0; replace BK76 := Z.kb hk BK76 NB76_0; replace HK := Z.k (KeepBut.trans HK.out hk (.inl rfl)); replace HB := Z.k hb; replace HI0 := Z.k hi; (try clear hb hk hi); have hnb48 := NB76_75.out; have hnc48 := NB75_76.out; have hnb49 := NB76_0.out; have hnc49 := NB0_76.out; have hcz50 := Z.c2 BK76.out) | ((with_reducible refine gate_builtin (b := .append) (xs := #[.tmp 52, .tmp 53]) rfl ?_); at_builtin; refine Kd.R_append (Kd.int .i64) w.heap.size rfl (.tmp 52) (.tmp 53) 23 3 (.int .i64 0) 8 rfl Try.underlying23 info3 rfl (by decide) (by omega) u74 x74_1 0 [.int .i64 0] (fun _ => True) (fun _ => False) rfl rfl ?aP (fun _ hk => hk.elim) ?aF ?aO (Below.refl _ _) ?aS ?aL ?_; (case aP => exact rfl); (case aF => exact (fun _ _ => trivial)); (case aO => exact HO_74.out); (case aS => exact (keep_size (w := w) (g := g) (row := none) HK.out)); (case aL => have := LMc45.out; omega); intro v130 w51 ho hb hg hat; rw [← Ny86.out] at ho; replace BK75 := Z.gb hg HO_74 BK75; replace BK76 := Z.gb hg HO_74 BK76; replace HB := Z.k (below_weaken HB.out HL.out hb); replace HI0 := Z.k (IsS92.grown HI0.out hg (IsS92.own_ne HI0.out HO_74.out (by decide))); replace HK := Z.k (KeepBut.trans HK.out (KeepBut.of_grown hg g) (Kd.R_base2 HO_74.out)); have HO131 := Z.k ho; clear HO_74; clear ho hb hg hat; obtain ⟨Ao52, co52, eo52⟩ := Kd.R_slice HO131.out; subst eo52; have hcz53 := Z.c2 BK76.out; have hnb54 := NB75_0.out; have hnc54 := NB0_75.out; have hcz55 := Z.c2 BK75.out))
    refine bodyPost_ret (results_cell_row rfl _ _ gb75 25 #[.int .i64 (wrap64 ((wrap64 (1 + t77)) + (wrap64 (Int.tdiv t78 8)))), .slice Ao52 y86.length co52] (0, 0) _ rfl (by refine blk_put (cs := #[.int .i64 (wrap64 ((wrap64 (1 + t77)) + (wrap64 (Int.tdiv t78 8)))), .slice none 0 0]) ?_ 1 _ rfl; refine blk_put (cs := #[.int .i64 0, .slice none 0 0]) ?_ 0 _ rfl; refine blk_far ?_ NB75_76.out _; exact BK75.out) Try.underlying25 rfl (by kernel_rfl)) rfl ?_
    exact ⟨_, by rfl, by exact Kd.R_mono (Kd.R_far (p := ⟨gb75, 1, none⟩) (Kd.R_far (p := ⟨gb75, 0, none⟩) (Kd.R_far (p := ⟨gb76, 1, none⟩) (Kd.R_types (Kd.R_types HO131.out BK76.out (by decide)) BK75.out (by decide)) (fun _ hk => hk.1.2) (.slice Ao52 y86.length co52)) (fun _ hk => hk.2) (.int .i64 (wrap64 ((wrap64 (1 + t77)) + (wrap64 (Int.tdiv t78 8)))))) (fun _ hk => hk.2) (.slice Ao52 y86.length co52)) (fun _ hk => trivial), by repeat ((with_reducible first | exact HI0.out | refine IsS92.far ?_ NB0_75.out _ | refine IsS92.far ?_ NB0_76.out _)), by repeat ((with_reducible first | exact HB.out | refine below_set ?_ GE75.out | refine below_set ?_ GE76.out)), by repeat ((with_reducible first | exact HK.out | refine keep_far ?_ GW75.out _ | refine keep_far ?_ GW76.out _))⟩
   rw [if_neg c44] at H
   have c44b0 : (t79 == 1) = false := beq_eq_false_iff_ne.mpr c44
   have c44b1 : (t79 != 1) = true := bne_iff_ne.mpr c44
   obtain ⟨y87, hy87⟩ : ∃ y_ : List Int, y_ = (([] : List Int)) := ⟨_, rfl⟩
   replace H : (some ((wrap64 ((wrap64 (1 + t77)) + (wrap64 (Int.tdiv t78 8)))), y87, t93)) = some (r1, r2, r3) := by (rw [hy87]; with_reducible exact H)
   have Ny87 := Z.k hy87
   clear hy87
   simp only [Option.some.injEq, Prod.mk.injEq] at H
   obtain ⟨rfl, rfl, rfl⟩ := H
   go_wp2_with (first | ((with_reducible refine gate_callee (f := 89) rfl ?_); refine goesL_ (some 36) rfl rfl Try.func89 (by kernel_rfl) rfl #[.pointer (some ⟨g, 0, none⟩), .int .i64 a1] rfl Z.ar ?_; (with_reducible refine (spec_l20Rd_odd.calls k1 g s0_0 x81_1 a1 true t91 w0 _ ?q1 ?q2 A25.out).mono ?_); (case q1 => exact HI0.out); (case q2 => exact HB.out); rintro e w56 ⟨rfl, hi, hb, hk⟩; refine ⟨_, rfl, ?_⟩; replace HO_74 := rk HI0 HO_74 hk; replace BK75 := Z.kb hk BK75 NB75_0; replace BK76 := Z.kb hk BK76 NB76_0; replace HK := Z.k (KeepBut.trans HK.out hk (.inl rfl)); replace HB := Z.k hb; replace HI0 := Z.k hi; (try clear hb hk hi)) | ((with_reducible refine gate_callee (f := 73) rfl ?_); refine goesL_ (some 38) rfl rfl Try.func73 (by kernel_rfl) rfl #[.pointer (some ⟨g, 0, none⟩), .int .i64 3] rfl Z.ar ?_; (with_reducible refine (spec_l20Rd_pick.calls k1 g s0_0 t91 3 t79 t93 w0 _ ?q1 ?q2 A27.out).mono ?_); (case q1 => exact HI0.out); (case q2 => exact HB.out); rintro e w57 ⟨rfl, hi, hb, hk⟩; refine ⟨_, rfl, ?_⟩; replace HO_74 := rk HI0 HO_74 hk; replace BK75 := Z.kb hk BK75 NB75_0; replace BK76 := Z.kb hk BK76 NB76_0; replace HK := Z.k (KeepBut.trans HK.out hk (.inl rfl)); replace HB := Z.k hb; replace HI0 := Z.k hi; (try clear hb hk hi)) | ((with_reducible refine gate_dst (N := 39) rfl ?_); refine Kd.R_lit (Kd.int .i64) _ 3 ?hg (N := 39) ?hd (xs := ([] : List Int)) (inner := []) (ok := fun _ => True) (okp := fun _ => True) ?hr ?hp (fun _ hk => hk) trivial (Below.refl _ _) (Nat.le_refl _) (by simp) ?_; (case hd | hg => rfl); (case hr => (go_simp; done)); (case hp => exact (Reps.none _ _)); intro v133 w58 ho59 hb hg_ hnew_; clear hg_ hnew_; (rw [← Ny87.out] at ho59); have HO134 := Z.k (Kd.R_lower (Kd.R_new' ho59 (Kd.R_lt HO_74.out)) (keep_size (w := w) (g := g) (row := none) HK.out)); replace HO_74 := Z.k (Kd.R_elder' HO_74.out (Kd.R_base ho59) hb); replace BK75 := Z.bb BK75 hb; replace BK76 := Z.bb BK76 hb; replace HK := Z.k (KeepBut.trans HK.out (KeepBut.of_below hb g none) (.inl rfl)); replace HB := Z.k (below_step HB.out hb); replace HI0 := Z.k (IsS92.below HI0.out hb); clear hb ho59; obtain ⟨Ao60, co60, eo60⟩ := Kd.R_slice HO134.out; subst eo60; have hnb61 := NB76_75.out; have hnc61 := NB75_76.out; have hnb62 := NB76_0.out; have hnc62 := NB0_76.out; have hcz63 := Z.c2 BK76.out; have hnb64 := NB75_0.out; have hnc64 := NB0_75.out; have hcz65 := Z.c2 BK75.out))
   refine bodyPost_ret (results_cell_row rfl _ _ gb75 25 #[.int .i64 (wrap64 ((wrap64 (1 + t77)) + (wrap64 (Int.tdiv t78 8)))), .slice Ao60 y87.length co60] (0, 0) _ rfl (by refine blk_put (cs := #[.int .i64 (wrap64 ((wrap64 (1 + t77)) + (wrap64 (Int.tdiv t78 8)))), .slice none 0 0]) ?_ 1 _ rfl; refine blk_put (cs := #[.int .i64 0, .slice none 0 0]) ?_ 0 _ rfl; refine blk_far ?_ NB75_76.out _; exact BK75.out) Try.underlying25 rfl (by kernel_rfl)) rfl ?_
   exact ⟨_, by rfl, by exact Kd.R_mono (Kd.R_far (p := ⟨gb75, 1, none⟩) (Kd.R_far (p := ⟨gb75, 0, none⟩) (Kd.R_far (p := ⟨gb76, 1, none⟩) (Kd.R_types (Kd.R_types HO134.out BK76.out (by decide)) BK75.out (by decide)) (fun _ hk => hk.1.2) (.slice Ao60 y87.length co60)) (fun _ hk => hk.2) (.int .i64 (wrap64 ((wrap64 (1 + t77)) + (wrap64 (Int.tdiv t78 8)))))) (fun _ hk => hk.2) (.slice Ao60 y87.length co60)) (fun _ hk => trivial), by repeat ((with_reducible first | exact HI0.out | refine IsS92.far ?_ NB0_75.out _ | refine IsS92.far ?_ NB0_76.out _)), by repeat ((with_reducible first | exact HB.out | refine below_set ?_ GE75.out | refine below_set ?_ GE76.out)), by repeat ((with_reducible first | exact HK.out | refine keep_far ?_ GW75.out _ | refine keep_far ?_ GW76.out _))⟩
  obtain ⟨ji15, hji15⟩ : ∃ j_ : Int, (wrap64 ((wrap64 (1 + t77)) + (wrap64 (Int.tdiv t78 8)))) = j_ := ⟨_, rfl⟩
  replace H : (if 0 ≤ (ji15) then ((spec_l20Rd_pick.f k1 s0_0 x81_1 (wrap64 ((shl .i64 1 (ji15)) - 1))).bind fun bt84 => (if x74_1.length < 17592186044416 then (spec_l20House.l0 k1 a1 (wrap64 (x6_1 - 1)) s0_0 bt84.2 (ji15) (x74_1 ++ [wrap64 (1 + bt84.1)])) else (none))) else (none)) = some (r1, r2, r3) := by (rw [hji15] at H; exact H)
  have hji15w : (IntKind.i64.wrap ((wrap64 (1 + t77)) + (wrap64 (Int.tdiv t78 8)))) = ji15 := (i64_w _).trans hji15
  obtain ⟨c16, H⟩ := Z.ifp H
  have c16b0 := eq_true c16
  have c16b1 : decide (0 ≤ (ji15)) = true := decide_eq_true c16
  clear c16
  obtain ⟨ji17, hji17⟩ : ∃ j_ : Int, (shl .i64 1 (ji15)) = j_ := ⟨_, rfl⟩
  replace H : ((spec_l20Rd_pick.f k1 s0_0 x81_1 (wrap64 ((ji17) - 1))).bind fun bt84 => (if x74_1.length < 17592186044416 then (spec_l20House.l0 k1 a1 (wrap64 (x6_1 - 1)) s0_0 bt84.2 (ji15) (x74_1 ++ [wrap64 (1 + bt84.1)])) else (none))) = some (r1, r2, r3) := by (rw [hji17] at H; exact H)
  have hji17_ : (IntKind.i64.wrap (1 * 2 ^ min (ji15).toNat 64)) = ji17 := hji17
  have hji17z : (ji15) ≤ 64 → (IntKind.i64.wrap (1 * 2 ^ (ji15).toNat)) = ji17 := shl_small hji17
  have hji17u : (IntKind.i64.wrap (2 ^ min (ji15).toNat 64)) = ji17 := by have h_ := hji17_; rw [Int.one_mul] at h_; exact h_
  have hji17v : (ji15) ≤ 64 → (IntKind.i64.wrap (2 ^ (ji15).toNat)) = ji17 := fun hle_ => by have h_ := hji17z hle_; rw [Int.one_mul] at h_; exact h_
  have hji17y : (wrap64 (1 * 2 ^ min (ji15).toNat 64)) = ji17 := (i64_w _).symm.trans hji17_
  have hji17x : (ji15) ≤ 64 → (wrap64 (1 * 2 ^ (ji15).toNat)) = ji17 := fun h_ => (i64_w _).symm.trans (hji17z h_)
  subst hji15
  revert H; refine Z.bd ?_; rintro ⟨t84, t97⟩ A18 H
  try dsimp only at H
  obtain ⟨c19, H⟩ := Z.ifp H
  have LMc19 := Z.k c19
  clear c19
  obtain ⟨y88, hy88⟩ : ∃ y_ : List Int, y_ = (x74_1 ++ [wrap64 (1 + t84)]) := ⟨_, rfl⟩
  replace H : (spec_l20House.l0 k1 a1 (wrap64 (x6_1 - 1)) s0_0 t97 (wrap64 ((wrap64 (1 + t77)) + (wrap64 (Int.tdiv t78 8)))) y88) = some (r1, r2, r3) := by (rw [hy88]; with_reducible exact H)
  have Ny88 := Z.k hy88
  clear hy88
  have H' := Z.k H
  clear H
  try go_wp2
  replace HO_74 := Z.k (Kd.R_drew HO_74.out)
  replace BK75 := Z.k (blk_drew BK75.out)
  replace BK76 := Z.k (blk_drew BK76.out)
  replace HI0 := Z.k (IsS92.drew HI0.out)
  replace HK := Z.k (keep_drew HK.out)
  replace HB := Z.k (below_drew1 HB.out)
  refine start_ (n := 13) (S := fun w' => w'.cell? ⟨gb76, 0, none⟩ = some (.int .i64 (wrap64 ((wrap64 (1 + t77)) + (wrap64 (Int.tdiv t78 8))))) ∧ w'.cell? ⟨gb76, 1, none⟩ = some (u74)) (ds := [12]) #[false, false, false, false, false, false, false, false, false, false, false, false, false] (by kernel_rfl) rfl rfl ⟨Z.b BK76 0, Z.b BK76 1⟩ (fun hHeld => ?_); refine with_tabW spec_l20House.tab5 spec_l20House.bits5 (fun HT_ HW_ => ?_)
  generalize wr.drew = w20 at HO_74 BK75 BK76 HI0 HK HB hHeld ⊢
  refine Z.pv 0 22 13 1 HT_.out ?_
  refine Z.pv 2 24 13 5 HT_.out ?_
  refine Z.pv 3 25 13 13 HT_.out ?_
  refine Z.t2 1 23 13 15 HT_.out HW_.out hHeld ?_
  refine Z.t2 4 26 13 31 HT_.out HW_.out hHeld ?_
  refine Z.pv 5 27 13 63 HT_.out ?_
  refine Z.pv 6 28 13 127 HT_.out ?_
  refine one_ (i := 7) (N := some 29) (Z.mb 13 255) rfl rfl (one_of HT_.out (by kernel_rfl)) (by decide) (fun K hK => ?_)
  refine goes_ Try.func73 (by kernel_rfl) rfl #[.pointer (some ⟨g, 0, none⟩), .int .i64 (wrap64 ((ji17) - 1))] (by rfl) rfl rfl (by (try simp only [List.map_toArray, List.map_cons, List.map_nil]); rfl) ?_
  with_reducible refine (spec_l20Rd_pick.calls k1 g s0_0 x81_1 (wrap64 ((ji17) - 1)) t84 t97 w0 _ ?q1 ?q2 A18.out).mono ?_
  (case q1 => exact HI0.out)
  (case q2 => exact HB.out)
  rintro e w21 ⟨rfl, hi, hb, hk⟩
  refine ⟨_, rfl, ?_⟩
  replace HO_74 := rk HI0 HO_74 hk
  replace BK75 := Z.kb hk BK75 NB75_0
  replace BK76 := Z.kb hk BK76 NB76_0
  replace HK := Z.k (KeepBut.trans HK.out hk (.inl rfl))
  replace HB := Z.k hb
  replace HI0 := Z.k hi
  (try clear hb)
  (try clear hk)
  (try clear hi)
  refine hK.out _ _ ⟨Z.b BK76 0, Z.b BK76 1⟩ (fun hHeld => ?_)
  clear hK K
  refine Z.nm ?_
  refine Z.pv 8 30 13 511 HT_.out ?_
  refine one_ (i := 9) (N := some 31) (Z.mb 13 1023) rfl rfl (one_of HT_.out (by kernel_rfl)) (by decide) (fun K hK => ?_)
  refine value_ (w1 := ?_) (v := ?_) (by rfl) rfl ?_ ?_
  rotate_left 2
  ·go_simp
   constructor
   ·rfl
   ·rfl
  refine hK.out _ _ ⟨(blk_cell (blk_alloc BK76.out _) 0).trans rfl, (blk_cell (blk_alloc BK76.out _) 1).trans rfl⟩ (fun hHeld => ?_)
  clear hK K
  refine Z.nm ?_
  refine one_ (i := 10) (N := some 32) (Z.mb 13 2047) rfl rfl (one_of HT_.out (by kernel_rfl)) (by decide) (fun K hK => ?_)
  refine Kd.R_append_step (Kd.int .i64) w.heap.size (by rfl) (.tmp 23) (.tmp 31) 23 3 (.int .i64 0) 8 rfl Try.underlying23 info3 rfl (by decide) (by omega) u74 x74_1 (wrap64 (1 + t84)) [.int .i64 (wrap64 (1 + t84))] (fun _ => True) (fun _ => False) rfl rfl ?aP (fun _ hk => hk.elim) ?aF ?aO (Below.refl _ _) ?aS ?aL ?_
  (case aP => exact rfl)
  (case aF => exact (fun _ _ => trivial))
  (case aO => exact HO_74.out)
  (case aS => exact (keep_size (w := w) (g := g) (row := none) HK.out))
  (case aL => have := LMc19.out; omega)
  intro v117 w22 ho hb hg hat
  rw [← Ny88.out] at ho
  replace BK75 := Z.gb hg HO_74 BK75
  replace BK76 := Z.gb hg HO_74 BK76
  replace HB := Z.k (below_weaken HB.out HL.out hb)
  replace HI0 := Z.k (IsS92.grown HI0.out hg (IsS92.own_ne HI0.out HO_74.out (by decide)))
  replace HK := Z.k (KeepBut.trans HK.out (KeepBut.of_grown hg g) (Kd.R_base2 HO_74.out))
  have HO118 := Z.k ho
  clear HO_74
  clear ho hb hg hat
  obtain ⟨Ao23, co23, eo23⟩ := Kd.R_slice HO118.out
  (subst eo23)
  refine hK.out _ _ ⟨Z.b BK76 0, Z.b BK76 1⟩ (fun hHeld => ?_)
  clear hK K
  refine Z.nm ?_
  refine Z.pv 11 33 13 4095 HT_.out ?_
  refine last_ (i := 12) (N := none) #[true, true, true, true, true, true, true, true, true, true, true, true, true] rfl rfl (one_of HT_.out (by kernel_rfl)) (by decide) (fun K hK => ?_)
  have hs24 : w22.cell? ⟨gb76, 1, none⟩ = some (u74) := Z.b BK76 1
  have hfs24 := blk_frozen BK76.out 1
  have hns24_0 := NB75_76.out
  have hms24_0 := NB76_75.out
  refine skip_ (w1 := ?_) (by rfl) rfl ?_ ?_
  rotate_left
  ·go_simp
   rfl
  refine hK.out _ _ ?_
  clear hK K
  refine done_ (done_of HT_.out (by kernel_rfl)) ?_
  try go_wp2
  go_roundg k1
  case measure => have := HK1.out; omega
  case rel => exact ⟨(wrap64 (x6_1 - 1)), (t97), (y88), (.slice Ao23 y88.length co23), (by rfl), H', ⟨by have := HK1.out; omega⟩, ⟨by exact Kd.R_mono (Kd.R_far (p := ⟨gb76, 1, none⟩) (Kd.R_types HO118.out BK76.out (by decide)) (fun _ hk => hk.2) (.slice Ao23 y88.length co23)) (fun _ hk => trivial)⟩, ⟨by refine blk_far ?_ NB75_76.out _; exact BK75.out⟩, ⟨by refine blk_put (cs := #[.int .i64 (wrap64 ((wrap64 (1 + t77)) + (wrap64 (Int.tdiv t78 8)))), u74]) ?_ 1 _ rfl; exact BK76.out⟩, ⟨by repeat ((with_reducible first | exact HI0.out | refine IsS92.far ?_ NB0_76.out _))⟩, ⟨by repeat ((with_reducible first | exact HK.out | refine keep_far ?_ GW76.out _))⟩, ⟨by repeat ((with_reducible first | exact HB.out | refine below_set ?_ GE76.out))⟩⟩
end Go.Proofs.Ytkogboechfieeaa.PAll

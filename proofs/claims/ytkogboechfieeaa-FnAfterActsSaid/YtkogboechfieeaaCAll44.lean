/- Walks of functions that laws of this seat reach, in the form of the print. -/
import Derived.Test.YtkogboechfieeaaCAll41
-- PRINTED
namespace Go.Proofs.Ytkogboechfieeaa.PAll
open Go.RowKit Go.Proofs.YtkogboechfieeaaW.PrintWords Go.Proofs.YtkogboechfieeaaW.PrintLast Go.Proofs.YtkogboechfieeaaW.PrintMore
attribute [local go_sem] max2_int min2_int max_two min_two max_three min_three max_four min_four
set_option linter.unusedVariables false
set_option linter.unusedSimpArgs false

/-! ### spec_l20Act: function 103 -/
mutual
def spec_l20Act.j0 : Nat → Bool → List Int → Int → Int → List Int → List (List (S37)) → Int → Int → Int → Option (Int × Int × Int × Int)
 | 0, _, _, _, _, _, _, _, _, _ => none
 | k + 1, x28, x1000, x1001, x455000, x455001, x455002, x461000, x461001, x461002 => if x28 = true then (if 0 ≤ x461000 then (if x461000 < (x455002.length : Int) then ((spec_l20Rd_pick.f k x1000 x1001 (mx ((rd_L5 x455002 x461000).length : Int) 1)).bind fun bt466 => (spec_l20Act.j1 k x1000 bt466.2 x461000 bt466.1 x461002)) else (none)) else (none)) else (spec_l20Act.j1 k x1000 x1001 x461000 x461001 x461002)
def spec_l20Act.j1 : Nat → List Int → Int → Int → Int → Int → Option (Int × Int × Int × Int)
 | 0, _, _, _, _, _ => none
 | k + 1, x1000, x1001, x461000, x461001, x461002 => (spec_l20Rd_odd.f k x1000 x1001 30).bind fun bt468 => (if bt468.1 = true then ((some (([(-1), 3] : List Int) : List Int)).bind fun y470 => ((spec_l20Rd_pick.f k x1000 bt468.2 2).bind fun bt473 => (if 0 ≤ bt473.1 then (if bt473.1 < (y470.length : Int) then (some (rd y470 bt473.1, x461001, x461002, bt473.2)) else (none)) else (none)))) else (some (x461000, x461001, x461002, bt468.2)))
end
def spec_l20Act.f (k : Nat) (s0_0 : List Int) (s0_1 : Int) (a1_0 : Int) (l1_1 : List Int) (l1_2 : List (List (S37))) : Option (Int × Int × Int × Int) := (spec_l20Rd_pick.f k s0_0 s0_1 (mx (l1_2.length : Int) 1)).bind fun bt456 => ((spec_l20Crowd.f k s0_0 bt456.2 a1_0 l1_1).bind fun bt458 => ((spec_l20Rd_pick.f k s0_0 bt458.2 3).bind fun bt461 => ((spec_l20Rd_pick.f k s0_0 bt461.2 3).bind fun bt463 => (if bt463.1 > 0 then (spec_l20Act.j0 k (decide ((l1_2.length : Int) > 0)) s0_0 bt463.2 a1_0 l1_1 l1_2 bt456.1 bt461.1 bt458.1) else (spec_l20Act.j0 k false s0_0 bt463.2 a1_0 l1_1 l1_2 bt456.1 bt461.1 bt458.1)))))
def spec_l20Act.T1 : Bool × List (List Nat × List Nat) := (true, [([], []), ([], []), ([1], [1]), ([2], [2]), ([3], [3]), ([0, 4], [0, 4]), ([], []), ([], []), ([7], [7]), ([6, 8, 5], [6, 8]), ([5, 9], [5, 9]), ([], []), ([11, 10, 9, 0, 1, 2, 3, 4, 5, 6, 7, 8, 9, 10, 11], [10, 11])])
def spec_l20Act.B1 : List Nat := [0, 0, 2, 6, 14, 31, 0, 0, 128, 511, 1023, 0, 4095]
theorem spec_l20Act.tab1 : rtab .any (opsOf Try.f103 1) = spec_l20Act.T1 := by kernel_rfl
theorem spec_l20Act.bits1 : waitsOk spec_l20Act.T1.2 spec_l20Act.B1 = true := by kernel_rfl
set_option maxHeartbeats 8000000 in
set_option maxRecDepth 100000 in
theorem spec_l20Act.calls (k : Nat) (g : Nat) (s0_0 : List Int) (s0_1 : Int) (a1_0 : Int) (A1_1 : Option Addr) (c1_1 : Nat) (l1_1 : List Int) (A1_2 : Option Addr) (c1_2 : Nat) (l1_2 : List (List (S37))) (r1 : Int) (r2 : Int) (r3 : Int) (r4 : Int) (w0 w : World) (hI : IsS92 w0 w g s0_0 s0_1) (hB : Below w0.heap.size w0 w) (hr1_1 : Kd.C (Kd.int .i64) w A1_1 l1_1.length l1_1) (hc1_1 : l1_1.length ≤ c1_1) (hf1_1 : ∀ ad, A1_1 = some ad → 0 < l1_1.length → ad.block ≠ g) (hr1_2 : ∀ W_, KeepBut w W_ g none → Kd.C (Kd.slice 37 k37) W_ A1_2 l1_2.length l1_2) (hc1_2 : l1_2.length ≤ c1_2) (h : spec_l20Act.f k s0_0 s0_1 a1_0 l1_1 l1_2 = some (r1, r2, r3, r4)) :
  Calls Try.prog 103 #[.pointer (some ⟨g, 0, none⟩), .agg #[.int .i64 a1_0, .slice A1_1 l1_1.length c1_1, .slice A1_2 l1_2.length c1_2]] w fun e w' => e = .returned (.agg #[.int .i64 r1, .int .i64 r2, .int .i64 r3]) ∧ IsS92 w0 w' g s0_0 r4 ∧ Below w0.heap.size w0 w' ∧ KeepBut w w' g none := by
 have hu46 := Try.underlying28
 have hu48 := Try.underlying59
 have hu25 := Try.underlying25
 have HR1_1 := Z.k hr1_1
 have HC1_1 := Z.k hc1_1
 clear hr1_1 hc1_1
 have HR1_2 := Z.k hr1_2
 have HC1_2 := Z.k hc1_2
 clear hr1_2 hc1_2
 have HI0 := Z.k hI
 have HK := Z.k (KeepBut.refl w g none)
 have HL := Z.k hB.size
 clear hI
 have HW0 := Z.k hB.size
 have HB := Z.k hB
 clear hB
 have H := h
 clear h
 unfold spec_l20Act.f at H
 obtain ⟨ji3, hji3⟩ : ∃ j_ : Int, (mx (l1_2.length : Int) 1) = j_ := ⟨_, rfl⟩
 replace H : ((spec_l20Rd_pick.f k s0_0 s0_1 (ji3)).bind fun bt456 => ((spec_l20Crowd.f k s0_0 bt456.2 a1_0 l1_1).bind fun bt458 => ((spec_l20Rd_pick.f k s0_0 bt458.2 3).bind fun bt461 => ((spec_l20Rd_pick.f k s0_0 bt461.2 3).bind fun bt463 => (if bt463.1 > 0 then (spec_l20Act.j0 k (decide ((l1_2.length : Int) > 0)) s0_0 bt463.2 a1_0 l1_1 l1_2 bt456.1 bt461.1 bt458.1) else (spec_l20Act.j0 k false s0_0 bt463.2 a1_0 l1_1 l1_2 bt456.1 bt461.1 bt458.1)))))) = some (r1, r2, r3, r4) := by (rw [hji3] at H; exact H)
 (try (have hji3l : 1 ≤ ji3 := by (rw [← hji3]; unfold mx; (repeat' split) <;> omega)))
 (try (have hji3m : 0 ≤ ji3 := by omega))
 have hji3_ : (if (l1_2.length : Int) < 1 then 1 else (l1_2.length : Int)) = ji3 := hji3
 revert H; refine Z.bd ?_; rintro ⟨t456, t457⟩ A4 H
 try dsimp only at H
 revert H; refine Z.bd ?_; rintro ⟨t458, t459⟩ A5 H
 try dsimp only at H
 revert H; refine Z.bd ?_; rintro ⟨t461, t462⟩ A6 H
 try dsimp only at H
 have HC7 := Z.k H
 clear H
 go_enter Try.func103, Try.ntmps103
 try go_wp2_with (first | ((with_reducible refine gate_dst (N := 3) rfl ?_); (try (refine gate_guard (by rfl) ?_; dsimp only)); refine box_event ?hg (N := 3) ?hd (cs := #[.int .i64 a1_0, .slice A1_1 l1_1.length c1_1, .slice A1_2 l1_2.length c1_2]) (t := 28) ?hr ?_; (case hd | hg => rfl); (case hr => (go_simp; done)); intro gb454 hg w8 hbox hb; replace HB := Z.k (below_step HB.out hb); have BK454 := Z.k hbox; have GW454 := Z.k ((by rw [hg]; exact (keep_size (w := w) (g := g) (row := none) HK.out) : w.heap.size ≤ gb454)); have GE454 := Z.k ((Nat.le_trans HW0.out (by rw [hg]; exact (keep_size (w := w) (g := g) (row := none) HK.out) : w.heap.size ≤ gb454) : w0.heap.size ≤ gb454)); replace HK := Z.k (KeepBut.trans HK.out (KeepBut.of_below hb g none) (.inl rfl)); have NB0_454 := Z.k ((by rw [hg]; exact Nat.ne_of_lt (IsS92.lt HI0.out) : g ≠ gb454)); have NB454_0 := Z.k ((by rw [hg]; exact Nat.ne_of_gt (IsS92.lt HI0.out) : gb454 ≠ g)); replace HI0 := Z.k (IsS92.below HI0.out hb); clear hb hbox hg) | ((with_reducible refine gate_dst (N := 4) rfl ?_); (try (refine gate_guard (by rfl) ?_; dsimp only)); refine box_event ?hg (N := 4) ?hd (cs := #[.int .i64 0, .int .i64 0, .int .i64 0]) (t := 59) ?hr ?_; (case hd | hg => rfl); (case hr => (go_simp; done)); intro gb455 hg w9 hbox hb; replace HB := Z.k (below_step HB.out hb); have BK455 := Z.k hbox; have GW455 := Z.k ((by rw [hg]; exact (keep_size (w := w) (g := g) (row := none) HK.out) : w.heap.size ≤ gb455)); have GE455 := Z.k ((Nat.le_trans HW0.out (by rw [hg]; exact (keep_size (w := w) (g := g) (row := none) HK.out) : w.heap.size ≤ gb455) : w0.heap.size ≤ gb455)); replace HK := Z.k (KeepBut.trans HK.out (KeepBut.of_below hb g none) (.inl rfl)); have NB454_455 := Z.nl hg BK454; have NB455_454 := Z.ng hg BK454; replace BK454 := Z.bb BK454 hb; have NB0_455 := Z.k ((by rw [hg]; exact Nat.ne_of_lt (IsS92.lt HI0.out) : g ≠ gb455)); have NB455_0 := Z.k ((by rw [hg]; exact Nat.ne_of_gt (IsS92.lt HI0.out) : gb455 ≠ g)); replace HI0 := Z.k (IsS92.below HI0.out hb); clear hb hbox hg))
 replace BK454 := Z.k (blk_drew BK454.out)
 replace BK455 := Z.k (blk_drew BK455.out)
 replace HI0 := Z.k (IsS92.drew HI0.out)
 replace HK := Z.k (keep_drew HK.out)
 replace HB := Z.k (below_drew1 HB.out)
 refine start_ (n := 13) (S := fun w' => w'.cell? ⟨gb454, 0, none⟩ = some (.int .i64 a1_0) ∧ w'.cell? ⟨gb454, 1, none⟩ = some (.slice A1_1 l1_1.length c1_1) ∧ w'.cell? ⟨gb454, 2, none⟩ = some (.slice A1_2 l1_2.length c1_2)) (ds := []) (Z.mb 13 0) (by kernel_rfl) rfl rfl ⟨Z.b BK454 0, Z.b BK454 1, Z.b BK454 2⟩ (fun hHeld => ?_); refine with_tabW spec_l20Act.tab1 spec_l20Act.bits1 (fun HT_ HW_ => ?_)
 generalize w9.drew = w10 at BK454 BK455 HI0 HK HB hHeld ⊢
 refine Z.pv 0 6 13 1 HT_.out ?_
 refine Z.pv 1 7 13 3 HT_.out ?_
 refine Z.pv 6 12 13 67 HT_.out ?_
 refine Z.pv 7 13 13 195 HT_.out ?_
 refine Z.t3 2 8 13 199 HT_.out HW_.out hHeld ?_
 refine Z.pv 3 9 13 207 HT_.out ?_
 refine Z.pv 4 10 13 223 HT_.out ?_
 refine Z.t3 8 14 13 479 HT_.out HW_.out hHeld ?_
 refine join_ (σ := Nat) 1 #[true, true, true, true, true, true, true, true, true, true, true, true, false] (fun s_ => [(11, .int .i64 t456), (15, .int .i64 t458), (5, .pointer (some ⟨s_, 0, none⟩)), (16, .agg #[.int .i64 t456, .int .i64 0, .int .i64 t458])]) (fun s_ w' => (w'.cell? ⟨gb454, 0, none⟩ = some (.int .i64 a1_0) ∧ w'.cell? ⟨gb454, 1, none⟩ = some (.slice A1_1 l1_1.length c1_1) ∧ w'.cell? ⟨gb454, 2, none⟩ = some (.slice A1_2 l1_2.length c1_2)) ∧ (w'.heap[gb454]? = some (.cells #[.int .i64 a1_0, .slice A1_1 l1_1.length c1_1, .slice A1_2 l1_2.length c1_2] 28 (0, 0))) ∧ (w'.heap[gb455]? = some (.cells #[.int .i64 0, .int .i64 0, .int .i64 0] 59 (0, 0))) ∧ (w'.heap[s_]? = some (.cells #[.int .i64 0, .int .i64 0, .int .i64 0] 59 (0, 0))) ∧ (w.heap.size ≤ s_) ∧ (w0.heap.size ≤ s_) ∧ (g ≠ s_) ∧ (s_ ≠ g) ∧ (gb454 ≠ s_) ∧ (s_ ≠ gb454) ∧ (gb455 ≠ s_) ∧ (s_ ≠ gb455) ∧ (IsS92 w0 w' g s0_0 t459) ∧ (KeepBut w w' g none) ∧ (Below w0.heap.size w0 w')) ?_ ?_
 rotate_left
 ·intro hCont
  refine two_ (i := 5) (j := 11) (Ni := some 11) (Nj := some 5) #[true, true, true, true, true, true, true, true, true, false, false, false, false] #[true, true, true, true, true, false, true, true, true, false, false, true, false] rfl rfl rfl rfl (two_of HT_.out (by kernel_rfl)) (by decide) (by decide) (fun K hK => ?_) (fun K hK => ?_)
  ·skip
   refine goes_ Try.func73 (by kernel_rfl) rfl #[.pointer (some ⟨g, 0, none⟩), .int .i64 ji3] (by rfl) rfl rfl (by (try simp only [List.map_toArray, List.map_cons, List.map_nil]); rfl) ?_
   with_reducible refine (spec_l20Rd_pick.calls k g s0_0 s0_1 ji3 t456 t457 w0 _ ?q1 ?q2 A4.out).mono ?_
   (case q1 => exact HI0.out)
   (case q2 => exact HB.out)
   rintro e w11 ⟨rfl, hi, hb, hk⟩
   refine ⟨_, rfl, ?_⟩
   replace BK454 := Z.k (KeepBut.blk hk (g' := gb454) (o := .cells #[.int .i64 a1_0, .slice A1_1 l1_1.length c1_1, .slice A1_2 l1_2.length c1_2] 28 (0, 0)) (Z.bk BK454.out) NB454_0.out (by simp))
   replace BK455 := Z.k (KeepBut.blk hk (g' := gb455) (o := .cells #[.int .i64 0, .int .i64 0, .int .i64 0] 59 (0, 0)) (Z.bk BK455.out) NB455_0.out (by simp))
   replace HK := Z.k (KeepBut.trans HK.out hk (.inl rfl))
   replace HB := Z.k hb
   replace HI0 := Z.k hi
   (try clear hb)
   (try clear hk)
   (try clear hi)
   refine hK.out _ _ ⟨Z.b BK454 0, Z.b BK454 1, Z.b BK454 2⟩ (fun hHeld => ?_)
   clear hK K
   refine Z.nm ?_
   refine two_ (i := 9) (j := 11) (Ni := some 15) (Nj := some 5) #[true, true, true, true, true, true, true, true, true, true, false, false, false] #[true, true, true, true, true, true, true, true, true, false, false, true, false] rfl rfl rfl rfl (two_of HT_.out (by kernel_rfl)) (by decide) (by decide) (fun K hK => ?_) (fun K hK => ?_)
   ·skip
    refine goes_ Try.func58 (by kernel_rfl) rfl #[.pointer (some ⟨g, 0, none⟩), .agg #[.int .i64 a1_0, .slice A1_1 l1_1.length c1_1]] (by rfl) rfl rfl Z.ar ?_
    with_reducible refine (spec_l20Crowd.calls k g s0_0 t457 a1_0 _ _ l1_1 t458 t459 w0 _ ?q1 ?q2 ?q3 ?q4 ?q5 A5.out).mono ?_
    (case q1 => exact HI0.out)
    (case q2 => exact HB.out)
    (case q3 => exact Kd.C_keep 0 HR1_1.out HK.out hf1_1)
    (case q4 => exact HC1_1.out)
    (case q5 => exact hf1_1)
    rintro e w12 ⟨rfl, hi, hb, hk⟩
    refine ⟨_, rfl, ?_⟩
    replace BK454 := Z.k (KeepBut.blk hk (g' := gb454) (o := .cells #[.int .i64 a1_0, .slice A1_1 l1_1.length c1_1, .slice A1_2 l1_2.length c1_2] 28 (0, 0)) (Z.bk BK454.out) NB454_0.out (by simp))
    replace BK455 := Z.k (KeepBut.blk hk (g' := gb455) (o := .cells #[.int .i64 0, .int .i64 0, .int .i64 0] 59 (0, 0)) (Z.bk BK455.out) NB455_0.out (by simp))
    replace HK := Z.k (KeepBut.trans HK.out hk (.inl rfl))
    replace HB := Z.k hb
    replace HI0 := Z.k hi
    (try clear hb)
    (try clear hk)
    (try clear hi)
    refine hK.out _ _ ⟨Z.b BK454 0, Z.b BK454 1, Z.b BK454 2⟩ (fun hHeld => ?_)
    clear hK K
    refine Z.nm ?_
    refine Z.pv 10 16 13 2047 HT_.out ?_
    refine one_ (i := 11) (N := some 5) (Z.mb 13 4095) rfl rfl (one_of HT_.out (by kernel_rfl)) (by decide) (fun K hK => ?_)
    refine box_step ?hg (N := 5) ?hd (cs := #[.int .i64 0, .int .i64 0, .int .i64 0]) (t := 59) ?hr ?_; (case hd | hg => rfl); (case hr => (go_simp; done))
    intro gb460 hg w13 hbox hb
    replace HB := Z.k (below_step HB.out hb)
    have BK460 := Z.k hbox
    have GW460 := Z.k ((by rw [hg]; exact (keep_size (w := w) (g := g) (row := none) HK.out) : w.heap.size ≤ gb460))
    have GE460 := Z.k ((Nat.le_trans HW0.out (by rw [hg]; exact (keep_size (w := w) (g := g) (row := none) HK.out) : w.heap.size ≤ gb460) : w0.heap.size ≤ gb460))
    replace HK := Z.k (KeepBut.trans HK.out (KeepBut.of_below hb g none) (.inl rfl))
    have NB454_460 := Z.nl hg BK454
    have NB460_454 := Z.ng hg BK454
    replace BK454 := Z.bb BK454 hb
    have NB455_460 := Z.nl hg BK455
    have NB460_455 := Z.ng hg BK455
    replace BK455 := Z.bb BK455 hb
    have NB0_460 := Z.k ((by rw [hg]; exact Nat.ne_of_lt (IsS92.lt HI0.out) : g ≠ gb460))
    have NB460_0 := Z.k ((by rw [hg]; exact Nat.ne_of_gt (IsS92.lt HI0.out) : gb460 ≠ g))
    replace HI0 := Z.k (IsS92.below HI0.out hb)
    clear hb hbox hg
    refine hK.out _ _ ⟨Z.b BK454 0, Z.b BK454 1, Z.b BK454 2⟩ (fun hHeld => ?_)
    clear hK K
    refine Z.nm ?_
    exact norm_ (by simp only [putAll, Act.put, List.setIfInBounds_toArray, List.set_cons_zero, List.set_cons_succ]) (hCont (gb460) _ ⟨hHeld, (Z.bk BK454.out), (Z.bk BK455.out), (Z.bk BK460.out), GW460.out, GE460.out, NB0_460.out, NB460_0.out, NB454_460.out, NB460_454.out, NB455_460.out, NB460_455.out, HI0.out, HK.out, HB.out⟩)
   ·skip
    refine box_step ?hg (N := 5) ?hd (cs := #[.int .i64 0, .int .i64 0, .int .i64 0]) (t := 59) ?hr ?_; (case hd | hg => rfl); (case hr => (go_simp; done))
    intro gb460 hg w12 hbox hb
    replace HB := Z.k (below_step HB.out hb)
    have BK460 := Z.k hbox
    have GW460 := Z.k ((by rw [hg]; exact (keep_size (w := w) (g := g) (row := none) HK.out) : w.heap.size ≤ gb460))
    have GE460 := Z.k ((Nat.le_trans HW0.out (by rw [hg]; exact (keep_size (w := w) (g := g) (row := none) HK.out) : w.heap.size ≤ gb460) : w0.heap.size ≤ gb460))
    replace HK := Z.k (KeepBut.trans HK.out (KeepBut.of_below hb g none) (.inl rfl))
    have NB454_460 := Z.nl hg BK454
    have NB460_454 := Z.ng hg BK454
    replace BK454 := Z.bb BK454 hb
    have NB455_460 := Z.nl hg BK455
    have NB460_455 := Z.ng hg BK455
    replace BK455 := Z.bb BK455 hb
    have NB0_460 := Z.k ((by rw [hg]; exact Nat.ne_of_lt (IsS92.lt HI0.out) : g ≠ gb460))
    have NB460_0 := Z.k ((by rw [hg]; exact Nat.ne_of_gt (IsS92.lt HI0.out) : gb460 ≠ g))
    replace HI0 := Z.k (IsS92.below HI0.out hb)
    clear hb hbox hg
    refine hK.out _ _ ⟨Z.b BK454 0, Z.b BK454 1, Z.b BK454 2⟩ (fun hHeld => ?_)
    clear hK K
    refine Z.nm ?_
    refine one_ (i := 9) (N := some 15) (Z.mb 13 3071) rfl rfl (one_of HT_.out (by kernel_rfl)) (by decide) (fun K hK => ?_)
    refine goes_ Try.func58 (by kernel_rfl) rfl #[.pointer (some ⟨g, 0, none⟩), .agg #[.int .i64 a1_0, .slice A1_1 l1_1.length c1_1]] (by rfl) rfl rfl Z.ar ?_
    with_reducible refine (spec_l20Crowd.calls k g s0_0 t457 a1_0 _ _ l1_1 t458 t459 w0 _ ?q1 ?q2 ?q3 ?q4 ?q5 A5.out).mono ?_
    (case q1 => exact HI0.out)
    (case q2 => exact HB.out)
    (case q3 => exact Kd.C_keep 0 HR1_1.out HK.out hf1_1)
    (case q4 => exact HC1_1.out)
    (case q5 => exact hf1_1)
    rintro e w13 ⟨rfl, hi, hb, hk⟩
    refine ⟨_, rfl, ?_⟩
    replace BK454 := Z.k (KeepBut.blk hk (g' := gb454) (o := .cells #[.int .i64 a1_0, .slice A1_1 l1_1.length c1_1, .slice A1_2 l1_2.length c1_2] 28 (0, 0)) (Z.bk BK454.out) NB454_0.out (by simp))
    replace BK455 := Z.k (KeepBut.blk hk (g' := gb455) (o := .cells #[.int .i64 0, .int .i64 0, .int .i64 0] 59 (0, 0)) (Z.bk BK455.out) NB455_0.out (by simp))
    replace BK460 := Z.k (KeepBut.blk hk (g' := gb460) (o := .cells #[.int .i64 0, .int .i64 0, .int .i64 0] 59 (0, 0)) (Z.bk BK460.out) NB460_0.out (by simp))
    replace HK := Z.k (KeepBut.trans HK.out hk (.inl rfl))
    replace HB := Z.k hb
    replace HI0 := Z.k hi
    (try clear hb)
    (try clear hk)
    (try clear hi)
    refine hK.out _ _ ⟨Z.b BK454 0, Z.b BK454 1, Z.b BK454 2⟩ (fun hHeld => ?_)
    clear hK K
    refine Z.nm ?_
    refine Z.pv 10 16 13 4095 HT_.out ?_
    exact norm_ (by simp only [putAll, Act.put, List.setIfInBounds_toArray, List.set_cons_zero, List.set_cons_succ]) (hCont (gb460) _ ⟨hHeld, (Z.bk BK454.out), (Z.bk BK455.out), (Z.bk BK460.out), GW460.out, GE460.out, NB0_460.out, NB460_0.out, NB454_460.out, NB460_454.out, NB455_460.out, NB460_455.out, HI0.out, HK.out, HB.out⟩)
  ·skip
   refine box_step ?hg (N := 5) ?hd (cs := #[.int .i64 0, .int .i64 0, .int .i64 0]) (t := 59) ?hr ?_; (case hd | hg => rfl); (case hr => (go_simp; done))
   intro gb460 hg w11 hbox hb
   replace HB := Z.k (below_step HB.out hb)
   have BK460 := Z.k hbox
   have GW460 := Z.k ((by rw [hg]; exact (keep_size (w := w) (g := g) (row := none) HK.out) : w.heap.size ≤ gb460))
   have GE460 := Z.k ((Nat.le_trans HW0.out (by rw [hg]; exact (keep_size (w := w) (g := g) (row := none) HK.out) : w.heap.size ≤ gb460) : w0.heap.size ≤ gb460))
   replace HK := Z.k (KeepBut.trans HK.out (KeepBut.of_below hb g none) (.inl rfl))
   have NB454_460 := Z.nl hg BK454
   have NB460_454 := Z.ng hg BK454
   replace BK454 := Z.bb BK454 hb
   have NB455_460 := Z.nl hg BK455
   have NB460_455 := Z.ng hg BK455
   replace BK455 := Z.bb BK455 hb
   have NB0_460 := Z.k ((by rw [hg]; exact Nat.ne_of_lt (IsS92.lt HI0.out) : g ≠ gb460))
   have NB460_0 := Z.k ((by rw [hg]; exact Nat.ne_of_gt (IsS92.lt HI0.out) : gb460 ≠ g))
   replace HI0 := Z.k (IsS92.below HI0.out hb)
   clear hb hbox hg
   refine hK.out _ _ ⟨Z.b BK454 0, Z.b BK454 1, Z.b BK454 2⟩ (fun hHeld => ?_)
   clear hK K
   refine Z.nm ?_
   refine one_ (i := 5) (N := some 11) (Z.mb 13 2559) rfl rfl (one_of HT_.out (by kernel_rfl)) (by decide) (fun K hK => ?_)
   refine goes_ Try.func73 (by kernel_rfl) rfl #[.pointer (some ⟨g, 0, none⟩), .int .i64 ji3] (by rfl) rfl rfl (by (try simp only [List.map_toArray, List.map_cons, List.map_nil]); rfl) ?_
   with_reducible refine (spec_l20Rd_pick.calls k g s0_0 s0_1 ji3 t456 t457 w0 _ ?q1 ?q2 A4.out).mono ?_
   (case q1 => exact HI0.out)
   (case q2 => exact HB.out)
   rintro e w12 ⟨rfl, hi, hb, hk⟩
   refine ⟨_, rfl, ?_⟩
   replace BK454 := Z.k (KeepBut.blk hk (g' := gb454) (o := .cells #[.int .i64 a1_0, .slice A1_1 l1_1.length c1_1, .slice A1_2 l1_2.length c1_2] 28 (0, 0)) (Z.bk BK454.out) NB454_0.out (by simp))
   replace BK455 := Z.k (KeepBut.blk hk (g' := gb455) (o := .cells #[.int .i64 0, .int .i64 0, .int .i64 0] 59 (0, 0)) (Z.bk BK455.out) NB455_0.out (by simp))
   replace BK460 := Z.k (KeepBut.blk hk (g' := gb460) (o := .cells #[.int .i64 0, .int .i64 0, .int .i64 0] 59 (0, 0)) (Z.bk BK460.out) NB460_0.out (by simp))
   replace HK := Z.k (KeepBut.trans HK.out hk (.inl rfl))
   replace HB := Z.k hb
   replace HI0 := Z.k hi
   (try clear hb)
   (try clear hk)
   (try clear hi)
   refine hK.out _ _ ⟨Z.b BK454 0, Z.b BK454 1, Z.b BK454 2⟩ (fun hHeld => ?_)
   clear hK K
   refine Z.nm ?_
   refine one_ (i := 9) (N := some 15) (Z.mb 13 3071) rfl rfl (one_of HT_.out (by kernel_rfl)) (by decide) (fun K hK => ?_)
   refine goes_ Try.func58 (by kernel_rfl) rfl #[.pointer (some ⟨g, 0, none⟩), .agg #[.int .i64 a1_0, .slice A1_1 l1_1.length c1_1]] (by rfl) rfl rfl Z.ar ?_
   with_reducible refine (spec_l20Crowd.calls k g s0_0 t457 a1_0 _ _ l1_1 t458 t459 w0 _ ?q1 ?q2 ?q3 ?q4 ?q5 A5.out).mono ?_
   (case q1 => exact HI0.out)
   (case q2 => exact HB.out)
   (case q3 => exact Kd.C_keep 0 HR1_1.out HK.out hf1_1)
   (case q4 => exact HC1_1.out)
   (case q5 => exact hf1_1)
   rintro e w13 ⟨rfl, hi, hb, hk⟩
   refine ⟨_, rfl, ?_⟩
   replace BK454 := Z.k (KeepBut.blk hk (g' := gb454) (o := .cells #[.int .i64 a1_0, .slice A1_1 l1_1.length c1_1, .slice A1_2 l1_2.length c1_2] 28 (0, 0)) (Z.bk BK454.out) NB454_0.out (by simp))
   replace BK455 := Z.k (KeepBut.blk hk (g' := gb455) (o := .cells #[.int .i64 0, .int .i64 0, .int .i64 0] 59 (0, 0)) (Z.bk BK455.out) NB455_0.out (by simp))
   replace BK460 := Z.k (KeepBut.blk hk (g' := gb460) (o := .cells #[.int .i64 0, .int .i64 0, .int .i64 0] 59 (0, 0)) (Z.bk BK460.out) NB460_0.out (by simp))
   replace HK := Z.k (KeepBut.trans HK.out hk (.inl rfl))
   replace HB := Z.k hb
   replace HI0 := Z.k hi
   (try clear hb)
   (try clear hk)
   (try clear hi)
   refine hK.out _ _ ⟨Z.b BK454 0, Z.b BK454 1, Z.b BK454 2⟩ (fun hHeld => ?_)
   clear hK K
   refine Z.nm ?_
   refine Z.pv 10 16 13 4095 HT_.out ?_
   exact norm_ (by simp only [putAll, Act.put, List.setIfInBounds_toArray, List.set_cons_zero, List.set_cons_succ]) (hCont (gb460) _ ⟨hHeld, (Z.bk BK454.out), (Z.bk BK455.out), (Z.bk BK460.out), GW460.out, GE460.out, NB0_460.out, NB460_0.out, NB454_460.out, NB460_454.out, NB455_460.out, NB460_455.out, HI0.out, HK.out, HB.out⟩)
 rintro gb460 w14 ⟨hS_, h0_, h1_, h2_, h3_, h4_, h5_, h6_, h7_, h8_, h9_, h10_, h11_, h12_, h13_⟩
 replace BK454 : Aside0 (w14.heap[gb454]? = some (.cells #[.int .i64 a1_0, .slice A1_1 l1_1.length c1_1, .slice A1_2 l1_2.length c1_2] 28 (0, 0))) := ⟨h0_⟩
 replace BK455 : Aside0 (w14.heap[gb455]? = some (.cells #[.int .i64 0, .int .i64 0, .int .i64 0] 59 (0, 0))) := ⟨h1_⟩
 have BK460 : Aside0 (w14.heap[gb460]? = some (.cells #[.int .i64 0, .int .i64 0, .int .i64 0] 59 (0, 0))) := ⟨h2_⟩
 have GW460 : Aside0 (w.heap.size ≤ gb460) := ⟨h3_⟩
 have GE460 : Aside0 (w0.heap.size ≤ gb460) := ⟨h4_⟩
 have NB0_460 : Aside0 (g ≠ gb460) := ⟨h5_⟩
 have NB460_0 : Aside0 (gb460 ≠ g) := ⟨h6_⟩
 have NB454_460 : Aside0 (gb454 ≠ gb460) := ⟨h7_⟩
 have NB460_454 : Aside0 (gb460 ≠ gb454) := ⟨h8_⟩
 have NB455_460 : Aside0 (gb455 ≠ gb460) := ⟨h9_⟩
 have NB460_455 : Aside0 (gb460 ≠ gb455) := ⟨h10_⟩
 replace HI0 : Aside0 (IsS92 w0 w14 g s0_0 t459) := ⟨h11_⟩
 replace HK : Aside0 (KeepBut w w14 g none) := ⟨h12_⟩
 replace HB : Aside0 (Below w0.heap.size w0 w14) := ⟨h13_⟩
 clear h0_ h1_ h2_ h3_ h4_ h5_ h6_ h7_ h8_ h9_ h10_ h11_ h12_ h13_
 have hHeld : w14.cell? ⟨gb454, 0, none⟩ = some (.int .i64 a1_0) ∧ w14.cell? ⟨gb454, 1, none⟩ = some (.slice A1_1 l1_1.length c1_1) ∧ w14.cell? ⟨gb454, 2, none⟩ = some (.slice A1_2 l1_2.length c1_2) := hS_
 refine norm_ (a' := ?_) ?_ ?_
 rotate_left
 ·simp only [putAll, Act.put, List.setIfInBounds_toArray, List.set_cons_zero, List.set_cons_succ]
  rfl
 refine one_ (i := 12) (N := none) #[true, true, true, true, true, true, true, true, true, true, true, true, true] rfl rfl (one_of HT_.out (by kernel_rfl)) (by decide) (fun K hK => ?_)
 have hs15 : w14.cell? ⟨gb460, 0, none⟩ = some (.int .i64 0) := Z.b BK460 0
 have hfs15 := blk_frozen BK460.out 0
 have hns15_0 := NB454_460.out
 have hns15_1 := NB455_460.out
 have hms15_0 := NB460_454.out
 have hms15_1 := NB460_455.out
 have hs16 : w14.cell? ⟨gb460, 1, none⟩ = some (.int .i64 0) := Z.b BK460 1
 have hfs16 := blk_frozen BK460.out 1
 have hns16_0 := NB454_460.out
 have hns16_1 := NB455_460.out
 have hms16_0 := NB460_454.out
 have hms16_1 := NB460_455.out
 have hs17 : w14.cell? ⟨gb460, 2, none⟩ = some (.int .i64 0) := Z.b BK460 2
 have hfs17 := blk_frozen BK460.out 2
 have hns17_0 := NB454_460.out
 have hns17_1 := NB455_460.out
 have hms17_0 := NB460_454.out
 have hms17_1 := NB460_455.out
 refine skip_ (w1 := ?_) (by rfl) rfl ?_ ?_
 rotate_left
 ·go_simp
  rfl
 refine hK.out _ _ ⟨(Z.f3 NB454_460.out (hHeld.1)), (Z.f3 NB454_460.out (hHeld.2.1)), (Z.f3 NB454_460.out (hHeld.2.2))⟩ (fun hHeld => ?_)
 clear hK K
 refine done_ (done_of HT_.out (by kernel_rfl)) ?_
 go_upto_region 3 with (((with_reducible refine gate_callee (f := 73) rfl ?_); refine goesL_ (some 18) rfl rfl Try.func73 (by kernel_rfl) rfl #[.pointer (some ⟨g, 0, none⟩), .int .i64 3] rfl Z.ar ?_; (with_reducible refine (spec_l20Rd_pick.calls k g s0_0 t459 3 t461 t462 w0 _ ?q1 ?q2 A6.out).mono ?_); (case q1 => repeat ((with_reducible first | exact HI0.out | refine IsS92.far ?_ NB0_460.out _))); (case q2 => repeat ((with_reducible first | exact HB.out | refine below_set ?_ GE460.out))); rintro e w18 ⟨rfl, hi, hb, hk⟩; refine ⟨_, rfl, ?_⟩; replace BK454 := Z.k (KeepBut.blk hk (g' := gb454) (o := .cells #[.int .i64 a1_0, .slice A1_1 l1_1.length c1_1, .slice A1_2 l1_2.length c1_2] 28 (0, 0)) (by refine blk_far ?_ NB454_460.out _; refine blk_far ?_ NB454_460.out _; refine blk_far ?_ NB454_460.out _; exact BK454.out) NB454_0.out (by simp)); replace BK455 := Z.k (KeepBut.blk hk (g' := gb455) (o := .cells #[.int .i64 0, .int .i64 0, .int .i64 0] 59 (0, 0)) (by refine blk_far ?_ NB455_460.out _; refine blk_far ?_ NB455_460.out _; refine blk_far ?_ NB455_460.out _; exact BK455.out) NB455_0.out (by simp)); replace BK460 := Z.k (KeepBut.blk hk (g' := gb460) (o := .cells #[.int .i64 t456, .int .i64 0, .int .i64 t458] 59 (0, 0)) (by refine blk_put (cs := #[.int .i64 t456, .int .i64 0, .int .i64 0]) ?_ 2 _ rfl; refine blk_put (cs := #[.int .i64 t456, .int .i64 0, .int .i64 0]) ?_ 1 _ rfl; refine blk_put (cs := #[.int .i64 0, .int .i64 0, .int .i64 0]) ?_ 0 _ rfl; exact BK460.out) NB460_0.out (by simp)); replace HK := Z.k (KeepBut.trans (by repeat ((with_reducible first | exact HK.out | refine keep_far ?_ GW460.out _))) hk (.inl rfl)); replace HB := Z.k hb; replace HI0 := Z.k hi; (try clear hb); (try clear hk); (try clear hi); have hnb19 := NB460_454.out; have hnc19 := NB454_460.out; have hnb20 := NB460_455.out; have hnc20 := NB455_460.out; have hnb21 := NB460_0.out; have hnc21 := NB0_460.out; have hcz22 := Z.c3 BK460.out))
 go_cut [28] (fun v28 wc => ∃ (kq : Nat) (x28_6 : Bool) (x1001_6 : Int), v28 = .bool x28_6 ∧ Aside0 (spec_l20Act.j0 kq x28_6 s0_0 x1001_6 a1_0 l1_1 l1_2 t456 t461 t458 = some (r1, r2, r3, r4)) ∧ Aside0 (kq ≤ k) ∧ Aside0 (wc.heap[gb454]? = some (.cells #[.int .i64 a1_0, (.slice A1_1 l1_1.length c1_1), (.slice A1_2 l1_2.length c1_2)] 28 (0, 0))) ∧ Aside0 (wc.heap[gb455]? = some (.cells #[.int .i64 0, .int .i64 0, .int .i64 0] 59 (0, 0))) ∧ Aside0 (wc.heap[gb460]? = some (.cells #[.int .i64 t456, .int .i64 t461, .int .i64 t458] 59 (0, 0))) ∧ Aside0 (IsS92 w0 wc g s0_0 x1001_6) ∧ Aside0 (KeepBut w wc g none) ∧ Aside0 (Below w0.heap.size w0 wc))
 case first =>
  have H := HC7.out
  clear HC7
  revert H; refine Z.bd ?_; rintro ⟨t463, t464⟩ A23 H
  try dsimp only at H
  revert H; refine Z.fc ?_ ?_ <;> intro c24b0 H
  ·have H' := Z.k H
   clear H
   go_wp2_with (((with_reducible refine gate_callee (f := 73) rfl ?_); refine goesL_ (some 21) rfl rfl Try.func73 (by kernel_rfl) rfl #[.pointer (some ⟨g, 0, none⟩), .int .i64 3] rfl Z.ar ?_; (with_reducible refine (spec_l20Rd_pick.calls k g s0_0 t462 3 t463 t464 w0 _ ?q1 ?q2 A23.out).mono ?_); (case q1 => repeat ((with_reducible first | exact HI0.out | refine IsS92.far ?_ NB0_460.out _))); (case q2 => repeat ((with_reducible first | exact HB.out | refine below_set ?_ GE460.out))); rintro e w25 ⟨rfl, hi, hb, hk⟩; refine ⟨_, rfl, ?_⟩; replace BK454 := Z.k (KeepBut.blk hk (g' := gb454) (o := .cells #[.int .i64 a1_0, .slice A1_1 l1_1.length c1_1, .slice A1_2 l1_2.length c1_2] 28 (0, 0)) (by refine blk_far ?_ NB454_460.out _; exact BK454.out) NB454_0.out (by simp)); replace BK455 := Z.k (KeepBut.blk hk (g' := gb455) (o := .cells #[.int .i64 0, .int .i64 0, .int .i64 0] 59 (0, 0)) (by refine blk_far ?_ NB455_460.out _; exact BK455.out) NB455_0.out (by simp)); replace BK460 := Z.k (KeepBut.blk hk (g' := gb460) (o := .cells #[.int .i64 t456, .int .i64 t461, .int .i64 t458] 59 (0, 0)) (by refine blk_put (cs := #[.int .i64 t456, .int .i64 0, .int .i64 t458]) ?_ 1 _ rfl; exact BK460.out) NB460_0.out (by simp)); replace HK := Z.k (KeepBut.trans (by repeat ((with_reducible first | exact HK.out | refine keep_far ?_ GW460.out _))) hk (.inl rfl)); replace HB := Z.k hb; replace HI0 := Z.k hi; (try clear hb); (try clear hk); (try clear hi); have hnb26 := NB454_455.out; have hnc26 := NB455_454.out; have hnb27 := NB454_460.out; have hnc27 := NB460_454.out; have hnb28 := NB454_0.out; have hnc28 := NB0_454.out; have hcz29 := Z.c3 BK454.out))
   go_meet
   case rel => exact ⟨_, (decide ((l1_2.length : Int) > 0)), (t464), (by (simp; done)), H', ⟨by omega⟩, ⟨by exact BK454.out⟩, ⟨by exact BK455.out⟩, ⟨by exact BK460.out⟩, ⟨HI0.out⟩, ⟨HK.out⟩, ⟨HB.out⟩⟩
  have H' := Z.k H
  clear H
  go_wp2_with (((with_reducible refine gate_callee (f := 73) rfl ?_); refine goesL_ (some 21) rfl rfl Try.func73 (by kernel_rfl) rfl #[.pointer (some ⟨g, 0, none⟩), .int .i64 3] rfl Z.ar ?_; (with_reducible refine (spec_l20Rd_pick.calls k g s0_0 t462 3 t463 t464 w0 _ ?q1 ?q2 A23.out).mono ?_); (case q1 => repeat ((with_reducible first | exact HI0.out | refine IsS92.far ?_ NB0_460.out _))); (case q2 => repeat ((with_reducible first | exact HB.out | refine below_set ?_ GE460.out))); rintro e w30 ⟨rfl, hi, hb, hk⟩; refine ⟨_, rfl, ?_⟩; replace BK454 := Z.k (KeepBut.blk hk (g' := gb454) (o := .cells #[.int .i64 a1_0, .slice A1_1 l1_1.length c1_1, .slice A1_2 l1_2.length c1_2] 28 (0, 0)) (by refine blk_far ?_ NB454_460.out _; exact BK454.out) NB454_0.out (by simp)); replace BK455 := Z.k (KeepBut.blk hk (g' := gb455) (o := .cells #[.int .i64 0, .int .i64 0, .int .i64 0] 59 (0, 0)) (by refine blk_far ?_ NB455_460.out _; exact BK455.out) NB455_0.out (by simp)); replace BK460 := Z.k (KeepBut.blk hk (g' := gb460) (o := .cells #[.int .i64 t456, .int .i64 t461, .int .i64 t458] 59 (0, 0)) (by refine blk_put (cs := #[.int .i64 t456, .int .i64 0, .int .i64 t458]) ?_ 1 _ rfl; exact BK460.out) NB460_0.out (by simp)); replace HK := Z.k (KeepBut.trans (by repeat ((with_reducible first | exact HK.out | refine keep_far ?_ GW460.out _))) hk (.inl rfl)); replace HB := Z.k hb; replace HI0 := Z.k hi; (try clear hb); (try clear hk); (try clear hi)))
  go_meet
  case rel => exact ⟨_, (false), (t464), (by rfl), H', ⟨by omega⟩, ⟨by exact BK454.out⟩, ⟨by exact BK455.out⟩, ⟨by exact BK460.out⟩, ⟨HI0.out⟩, ⟨HK.out⟩, ⟨HB.out⟩⟩
 case rest =>
  clear HC7
  obtain ⟨kq, x28_6, x1001_6, rfl, HA, HJ6, BK454, BK455, BK460, HI0, HK, HB⟩ := hcut
  cases kq with
  | zero => exact absurd HA.out (by simp [spec_l20Act.j0])
  | succ kj6 =>
   have H := HA.out
   clear HA
   simp only [spec_l20Act.j0] at H
   have HC31 := Z.k H
   clear H
   go_upto_if 28 with (fail)
   go_cut [] (fun wc => ∃ (kq : Nat) (x1001_30 : Int) (x461001_30 : Int), Aside0 (spec_l20Act.j1 kq s0_0 x1001_30 t456 x461001_30 t458 = some (r1, r2, r3, r4)) ∧ Aside0 (kq ≤ kj6) ∧ Aside0 (wc.heap[gb454]? = some (.cells #[.int .i64 a1_0, (.slice A1_1 l1_1.length c1_1), (.slice A1_2 l1_2.length c1_2)] 28 (0, 0))) ∧ Aside0 (wc.heap[gb455]? = some (.cells #[.int .i64 0, .int .i64 0, .int .i64 0] 59 (0, 0))) ∧ Aside0 (wc.heap[gb460]? = some (.cells #[.int .i64 t456, .int .i64 x461001_30, .int .i64 t458] 59 (0, 0))) ∧ Aside0 (IsS92 w0 wc g s0_0 x1001_30) ∧ Aside0 (KeepBut w wc g none) ∧ Aside0 (Below w0.heap.size w0 wc))
   case first =>
    have H := HC31.out
    clear HC31
    by_cases c32 : x28_6 = true
    ·subst c32
     rw [if_pos rfl] at H
     obtain ⟨c33b0, H⟩ := Z.fd H
     obtain ⟨c34b0, H⟩ := Z.fd H
     obtain ⟨ji35, hji35⟩ : ∃ j_ : Int, (mx ((rd_L5 l1_2 t456).length : Int) 1) = j_ := ⟨_, rfl⟩
     replace H : ((spec_l20Rd_pick.f kj6 s0_0 x1001_6 (ji35)).bind fun bt466 => (spec_l20Act.j1 kj6 s0_0 bt466.2 t456 bt466.1 t458)) = some (r1, r2, r3, r4) := by (rw [hji35] at H; exact H)
     have hji35_ : (if ((rd_L5 l1_2 t456).length : Int) < 1 then 1 else ((rd_L5 l1_2 t456).length : Int)) = ji35 := hji35
     revert H; refine Z.bd ?_; rintro ⟨t466, t467⟩ A36 H
     try dsimp only at H
     have H' := Z.k H
     clear H
     have hnb37 := NB454_455.out
     have hnc37 := NB455_454.out
     have hnb38 := NB454_460.out
     have hnc38 := NB460_454.out
     have hnb39 := NB454_0.out
     have hnc39 := NB0_454.out
     have hcz40 := Z.c3 BK454.out
     have hnb41 := NB460_455.out
     have hnc41 := NB455_460.out
     have hnb42 := NB460_0.out
     have hnc42 := NB0_460.out
     have hcz43 := Z.c3 BK460.out
     have p465 : 0 ≤ (t456 : Int) := Z.od
     have q465 : t456 < (l1_2.length : Int) := Z.od
     obtain ⟨ad465, A465_0, c465_0, e465, hx465_0, hl465_0, hi465_0⟩ := at_L5 (Kd.C_foot_now HR1_2.out HK.out) t456 p465 q465
     cases e465
     have HR465_0 := Z.k hi465_0
     have HC465_0 := Z.k hl465_0
     clear hi465_0 hl465_0
     replace p465 := eq_true p465
     replace q465 := eq_true q465
     go_wp2_with (((with_reducible refine gate_callee (f := 73) rfl ?_); refine goesL_ (some 38) rfl rfl Try.func73 (by kernel_rfl) rfl #[.pointer (some ⟨g, 0, none⟩), .int .i64 ji35] rfl (by (try simp only [List.map_toArray, List.map_cons, List.map_nil]); rfl) ?_; (with_reducible refine (spec_l20Rd_pick.calls kj6 g s0_0 x1001_6 ji35 t466 t467 w0 _ ?q1 ?q2 A36.out).mono ?_); (case q1 => exact HI0.out); (case q2 => exact HB.out); rintro e w44 ⟨rfl, hi, hb, hk⟩; refine ⟨_, rfl, ?_⟩; replace BK454 := Z.k (KeepBut.blk hk (g' := gb454) (o := .cells #[.int .i64 a1_0, .slice A1_1 l1_1.length c1_1, .slice (some ad465) l1_2.length c1_2] 28 (0, 0)) (Z.bk BK454.out) NB454_0.out (by simp)); replace BK455 := Z.k (KeepBut.blk hk (g' := gb455) (o := .cells #[.int .i64 0, .int .i64 0, .int .i64 0] 59 (0, 0)) (Z.bk BK455.out) NB455_0.out (by simp)); replace BK460 := Z.k (KeepBut.blk hk (g' := gb460) (o := .cells #[.int .i64 t456, .int .i64 t461, .int .i64 t458] 59 (0, 0)) (Z.bk BK460.out) NB460_0.out (by simp)); replace HK := Z.k (KeepBut.trans HK.out hk (.inl rfl)); replace HB := Z.k hb; replace HI0 := Z.k hi; (try clear hb); (try clear hk); (try clear hi); have hcz45 := Z.c3 BK460.out))
     go_meet
     case rel => exact ⟨_, (t467), (t466), H', ⟨by have := HJ6.out; omega⟩, ⟨by refine blk_far ?_ NB454_460.out _; exact BK454.out⟩, ⟨by refine blk_far ?_ NB455_460.out _; exact BK455.out⟩, ⟨by refine blk_put (cs := #[.int .i64 t456, .int .i64 t461, .int .i64 t458]) ?_ 1 _ rfl; exact BK460.out⟩, ⟨by repeat ((with_reducible first | exact HI0.out | refine IsS92.far ?_ NB0_460.out _))⟩, ⟨by repeat ((with_reducible first | exact HK.out | refine keep_far ?_ GW460.out _))⟩, ⟨by repeat ((with_reducible first | exact HB.out | refine below_set ?_ GE460.out))⟩⟩
    replace c32 := Bool.eq_false_iff.mpr c32
    subst c32
    rw [if_neg (show ¬ (false = true) by decide)] at H
    have H' := Z.k H
    clear H
    go_wp2
    go_meet
    case rel => exact ⟨_, (x1001_6), (t461), H', ⟨by have := HJ6.out; omega⟩, ⟨by exact BK454.out⟩, ⟨by exact BK455.out⟩, ⟨by exact BK460.out⟩, ⟨HI0.out⟩, ⟨HK.out⟩, ⟨HB.out⟩⟩
   case rest =>
    clear HC31
    obtain ⟨kq, x1001_30, x461001_30, HA, HJ30, BK454, BK455, BK460, HI0, HK, HB⟩ := hcut
    cases kq with
    | zero => exact absurd HA.out (by simp [spec_l20Act.j1])
    | succ kj30 =>
     have H := HA.out
     clear HA
     simp only [spec_l20Act.j1] at H
     revert H; refine Z.bd ?_; rintro ⟨t468, t469⟩ A46 H
     try dsimp only at H
     by_cases c47 : t468 = true
     ·subst c47
      rw [if_pos rfl] at H
      obtain ⟨y470, hy470⟩ : ∃ y_ : List Int, y_ = (([(-1), 3] : List Int)) := ⟨_, rfl⟩
      replace H : ((spec_l20Rd_pick.f kj30 s0_0 t469 2).bind fun bt473 => (if 0 ≤ bt473.1 then (if bt473.1 < (y470.length : Int) then (some (rd y470 bt473.1, x461001_30, t458, bt473.2)) else (none)) else (none))) = some (r1, r2, r3, r4) := by (have H2_ := (Option.bind_some _ _).symm.trans H; rw [hy470]; with_reducible exact H2_)
      have Ny470 := Z.k hy470
      clear hy470
      revert H; refine Z.bd ?_; rintro ⟨t473, t474⟩ A48 H
      try dsimp only at H
      obtain ⟨c49b0, H⟩ := Z.fd H
      obtain ⟨c50b0, H⟩ := Z.fd H
      simp only [Option.some.injEq, Prod.mk.injEq] at H
      obtain ⟨rfl, rfl, rfl, rfl⟩ := H
      go_wp2_with (first | ((with_reducible refine gate_callee (f := 89) rfl ?_); refine goesL_ (some 41) rfl rfl Try.func89 (by kernel_rfl) rfl #[.pointer (some ⟨g, 0, none⟩), .int .i64 30] rfl Z.ar ?_; (with_reducible refine (spec_l20Rd_odd.calls kj30 g s0_0 x1001_30 30 true t469 w0 _ ?q1 ?q2 A46.out).mono ?_); (case q1 => exact HI0.out); (case q2 => exact HB.out); rintro e w51 ⟨rfl, hi, hb, hk⟩; refine ⟨_, rfl, ?_⟩; replace BK454 := Z.k (KeepBut.blk hk (g' := gb454) (o := .cells #[.int .i64 a1_0, .slice A1_1 l1_1.length c1_1, .slice A1_2 l1_2.length c1_2] 28 (0, 0)) (Z.bk BK454.out) NB454_0.out (by simp)); replace BK455 := Z.k (KeepBut.blk hk (g' := gb455) (o := .cells #[.int .i64 0, .int .i64 0, .int .i64 0] 59 (0, 0)) (Z.bk BK455.out) NB455_0.out (by simp)); replace BK460 := Z.k (KeepBut.blk hk (g' := gb460) (o := .cells #[.int .i64 t456, .int .i64 x461001_30, .int .i64 t458] 59 (0, 0)) (Z.bk BK460.out) NB460_0.out (by simp)); replace HK := Z.k (KeepBut.trans HK.out hk (.inl rfl)); replace HB := Z.k hb; replace HI0 := Z.k hi; (try clear hb); (try clear hk); (try clear hi)) | ((with_reducible refine gate_dst (N := 42) rfl ?_); (try (refine gate_guard (by rfl) ?_; dsimp only)); refine Kd.R_lit (Kd.int .i64) _ 3 ?hg (N := 42) ?hd (xs := ([(-1), 3] : List Int)) (inner := [.int .i64 (-1), .int .i64 3]) (ok := fun _ => True) (okp := fun _ => True) ?hr ?hp (fun _ hk => hk) trivial (Below.refl _ _) (Nat.le_refl _) (by simp) ?_; (case hd | hg => rfl); (case hr => (go_simp; done)); (case hp => exact (Reps.one (show Kd.M (Kd.int .i64) _ _ _ (-1) [.int .i64 (-1)] from rfl) (Reps.one (show Kd.M (Kd.int .i64) _ _ _ 3 [.int .i64 3] from rfl) (Reps.none _ _)))); intro v471 w52 ho53 hb hg_ hnew_; clear hg_ hnew_; (rw [← Ny470.out] at ho53); have HO472 := Z.k (Kd.R_lower ho53 (keep_size (w := w) (g := g) (row := none) HK.out)); replace BK454 := Z.bb BK454 hb; replace BK455 := Z.bb BK455 hb; replace BK460 := Z.bb BK460 hb; replace HK := Z.k (KeepBut.trans HK.out (KeepBut.of_below hb g none) (.inl rfl)); replace HB := Z.k (below_step HB.out hb); replace HI0 := Z.k (IsS92.below HI0.out hb); clear hb ho53) | ((with_reducible refine gate_callee (f := 73) rfl ?_); refine goesL_ (some 44) rfl rfl Try.func73 (by kernel_rfl) rfl #[.pointer (some ⟨g, 0, none⟩), .int .i64 2] rfl Z.ar ?_; (with_reducible refine (spec_l20Rd_pick.calls kj30 g s0_0 t469 2 t473 t474 w0 _ ?q1 ?q2 A48.out).mono ?_); (case q1 => exact HI0.out); (case q2 => exact HB.out); rintro e w54 ⟨rfl, hi, hb, hk⟩; refine ⟨_, rfl, ?_⟩; replace BK454 := Z.k (KeepBut.blk hk (g' := gb454) (o := .cells #[.int .i64 a1_0, .slice A1_1 l1_1.length c1_1, .slice A1_2 l1_2.length c1_2] 28 (0, 0)) (Z.bk BK454.out) NB454_0.out (by simp)); replace BK455 := Z.k (KeepBut.blk hk (g' := gb455) (o := .cells #[.int .i64 0, .int .i64 0, .int .i64 0] 59 (0, 0)) (Z.bk BK455.out) NB455_0.out (by simp)); replace BK460 := Z.k (KeepBut.blk hk (g' := gb460) (o := .cells #[.int .i64 t456, .int .i64 x461001_30, .int .i64 t458] 59 (0, 0)) (Z.bk BK460.out) NB460_0.out (by simp)); replace HO472 := Z.k (Kd.R_mono (Kd.R_keep (IsS92.apart HI0.out HO472.out (by decide)) hk (fun _ h => h.2)) (fun _ h => h.1)); replace HK := Z.k (KeepBut.trans HK.out hk (.inl rfl)); replace HB := Z.k hb; replace HI0 := Z.k hi; (try clear hb); (try clear hk); (try clear hi); obtain ⟨Ao55, co55, eo55⟩ := Kd.R_slice HO472.out; subst eo55; have p475 : 0 ≤ (t473 : Int) := Z.od; have q475 : t473 < (y470.length : Int) := Z.od; obtain ⟨ad475, e475, hx475_0⟩ := Kd.at_int (Kd.R_reads' HO472.out).2.2 t473 p475 q475; cases e475; replace p475 := eq_true p475; replace q475 := eq_true q475; have hnb56 := NB460_454.out; have hnc56 := NB454_460.out; have hnb57 := NB460_455.out; have hnc57 := NB455_460.out; have hnb58 := NB460_0.out; have hnc58 := NB0_460.out; have hcz59 := Z.c3 BK460.out; have hnb60 := NB455_454.out; have hnc60 := NB454_455.out; have hnb61 := NB455_0.out; have hnc61 := NB0_455.out; have hcz62 := Z.c3 BK455.out))
      refine bodyPost_ret (results_cell_row rfl _ _ gb455 59 #[.int .i64 (rd y470 t473), .int .i64 x461001_30, .int .i64 t458] (0, 0) _ rfl (by refine blk_put (cs := #[.int .i64 (rd y470 t473), .int .i64 x461001_30, .int .i64 0]) ?_ 2 _ rfl; refine blk_put (cs := #[.int .i64 (rd y470 t473), .int .i64 0, .int .i64 0]) ?_ 1 _ rfl; refine blk_put (cs := #[.int .i64 0, .int .i64 0, .int .i64 0]) ?_ 0 _ rfl; refine blk_far ?_ NB455_460.out _; exact BK455.out) Try.underlying59 rfl (by kernel_rfl)) rfl ?_
      exact ⟨by rfl, by repeat ((with_reducible first | exact HI0.out | refine IsS92.far ?_ NB0_455.out _ | refine IsS92.far ?_ NB0_460.out _)), by repeat ((with_reducible first | exact HB.out | refine below_set ?_ GE455.out | refine below_set ?_ GE460.out)), by repeat ((with_reducible first | exact HK.out | refine keep_far ?_ GW455.out _ | refine keep_far ?_ GW460.out _))⟩
     replace c47 := Bool.eq_false_iff.mpr c47
     subst c47
     rw [if_neg (show ¬ (false = true) by decide)] at H
     simp only [Option.some.injEq, Prod.mk.injEq] at H
     obtain ⟨rfl, rfl, rfl, rfl⟩ := H
     go_wp2_with (((with_reducible refine gate_callee (f := 89) rfl ?_); refine goesL_ (some 41) rfl rfl Try.func89 (by kernel_rfl) rfl #[.pointer (some ⟨g, 0, none⟩), .int .i64 30] rfl Z.ar ?_; (with_reducible refine (spec_l20Rd_odd.calls kj30 g s0_0 x1001_30 30 false t469 w0 _ ?q1 ?q2 A46.out).mono ?_); (case q1 => exact HI0.out); (case q2 => exact HB.out); rintro e w63 ⟨rfl, hi, hb, hk⟩; refine ⟨_, rfl, ?_⟩; replace BK454 := Z.k (KeepBut.blk hk (g' := gb454) (o := .cells #[.int .i64 a1_0, .slice A1_1 l1_1.length c1_1, .slice A1_2 l1_2.length c1_2] 28 (0, 0)) (Z.bk BK454.out) NB454_0.out (by simp)); replace BK455 := Z.k (KeepBut.blk hk (g' := gb455) (o := .cells #[.int .i64 0, .int .i64 0, .int .i64 0] 59 (0, 0)) (Z.bk BK455.out) NB455_0.out (by simp)); replace BK460 := Z.k (KeepBut.blk hk (g' := gb460) (o := .cells #[.int .i64 t456, .int .i64 x461001_30, .int .i64 t458] 59 (0, 0)) (Z.bk BK460.out) NB460_0.out (by simp)); replace HK := Z.k (KeepBut.trans HK.out hk (.inl rfl)); replace HB := Z.k hb; replace HI0 := Z.k hi; (try clear hb); (try clear hk); (try clear hi); have hnb64 := NB460_454.out; have hnc64 := NB454_460.out; have hnb65 := NB460_455.out; have hnc65 := NB455_460.out; have hnb66 := NB460_0.out; have hnc66 := NB0_460.out; have hcz67 := Z.c3 BK460.out; have hnb68 := NB455_454.out; have hnc68 := NB454_455.out; have hnb69 := NB455_0.out; have hnc69 := NB0_455.out; have hcz70 := Z.c3 BK455.out))
     refine bodyPost_ret (results_cell_row rfl _ _ gb455 59 #[.int .i64 t456, .int .i64 x461001_30, .int .i64 t458] (0, 0) _ rfl (by refine blk_put (cs := #[.int .i64 t456, .int .i64 x461001_30, .int .i64 0]) ?_ 2 _ rfl; refine blk_put (cs := #[.int .i64 t456, .int .i64 0, .int .i64 0]) ?_ 1 _ rfl; refine blk_put (cs := #[.int .i64 0, .int .i64 0, .int .i64 0]) ?_ 0 _ rfl; exact BK455.out) Try.underlying59 rfl (by kernel_rfl)) rfl ?_
     exact ⟨by rfl, by repeat ((with_reducible first | exact HI0.out | refine IsS92.far ?_ NB0_455.out _)), by repeat ((with_reducible first | exact HB.out | refine below_set ?_ GE455.out)), by repeat ((with_reducible first | exact HK.out | refine keep_far ?_ GW455.out _))⟩

end Go.Proofs.Ytkogboechfieeaa.PAll

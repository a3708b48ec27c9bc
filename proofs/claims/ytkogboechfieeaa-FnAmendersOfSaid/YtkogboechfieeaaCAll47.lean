/- Walks of functions that laws of this seat reach, in the form of the print. -/
import Derived.Test.YtkogboechfieeaaCAll41
-- PRINTED
namespace Go.Proofs.Ytkogboechfieeaa.PAll
open Go.RowKit Go.Proofs.YtkogboechfieeaaW.PrintWords Go.Proofs.YtkogboechfieeaaW.PrintLast Go.Proofs.YtkogboechfieeaaW.PrintMore
attribute [local go_sem] max2_int min2_int max_two min_two max_three min_three max_four min_four
set_option linter.unusedVariables false
set_option linter.unusedSimpArgs false

/-! ### spec_DrawChangesTo: function 40 -/
def spec_DrawChangesTo.l0 : Nat → List Int → List Int → Int → List Int → Int → Int → List Int → List (List (S37)) → Option (Int × List Int × (List (List (S37))) × List Int × List Int × Int)
 | 0, _, _, _, _, _, _, _, _ => none
 | k + 1, x8, x9, x10, x594000, x594001, x606000, x606001, x606002 => if x10 < (x8.length : Int) then (if x10 < (x606002.length : Int) then (if 0 ≤ x10 then ((spec_l20Rd_pick.f k x594000 x594001 3).bind fun bt610 => (if (mx ((rd_L5 x606002 x10).length : Int) 1) = 0 then (none) else (if x9.length < 17592186044416 then (spec_DrawChangesTo.l0 k x8 (x9 ++ [Int.tmod bt610.1 (mx ((rd_L5 x606002 x10).length : Int) 1)]) (wrap64 (x10 + 1)) x594000 bt610.2 x606000 x606001 x606002) else (none)))) else (none)) else ((spec_l20Rd_pick.f k x594000 x594001 3).bind fun bt615 => (if x9.length < 17592186044416 then (spec_DrawChangesTo.l0 k x8 (x9 ++ [Int.tmod bt615.1 1]) (wrap64 (x10 + 1)) x594000 bt615.2 x606000 x606001 x606002) else (none)))) else ((spec_l20Crowd.f k x594000 x594001 x606000 x606001).bind fun bt620 => (some (x606000, x606001, x606002, x8, x9, bt620.1)))
def spec_DrawChangesTo.f (k : Nat) (l0 : List Int) : Option (Int × List Int × (List (List (S37))) × List Int × List Int × Int) := (spec_l20Open.f l0).bind fun bt591 => ((spec_l20State.f k bt591.1 bt591.2 14).bind fun bt594 => (spec_DrawChangesTo.l0 k bt594.2.2.2.1 (([] : List Int)) 0 bt591.1 bt594.2.2.2.2 bt594.1 bt594.2.1 bt594.2.2.1))
def spec_DrawChangesTo.T11 : Bool × List (List Nat × List Nat) := (true, [([], []), ([], []), ([], []), ([], []), ([], []), ([4], [4]), ([3, 5], [3, 5]), ([0, 6, 0], [0]), ([1, 7, 0, 1, 7], [1]), ([2, 8, 0, 1, 2, 7, 8], [2]), ([6, 9, 0, 1, 2, 3, 4, 5, 6, 7, 8, 9], [6])])
def spec_DrawChangesTo.B11 : List Nat := [0, 0, 0, 0, 0, 16, 56, 121, 251, 511, 1023]
theorem spec_DrawChangesTo.tab11 : rtab .any (opsOf Try.f40 11) = spec_DrawChangesTo.T11 := by kernel_rfl
theorem spec_DrawChangesTo.bits11 : waitsOk spec_DrawChangesTo.T11.2 spec_DrawChangesTo.B11 = true := by kernel_rfl
set_option maxHeartbeats 8000000 in
set_option maxRecDepth 100000 in
theorem spec_DrawChangesTo.calls (k : Nat) (A0 : Option Addr) (c0 : Nat) (l0 : List Int) (r1 : Int) (r2 : List Int) (r3 : List (List (S37))) (r4 : List Int) (r5 : List Int) (r6 : Int) (w : World) (hr0 : Kd.C (Kd.int .u8) w A0 l0.length l0) (hc0 : l0.length ≤ c0) (h : spec_DrawChangesTo.f k l0 = some (r1, r2, r3, r4, r5, r6)) :
  Calls Try.prog 40 #[.slice A0 l0.length c0] w fun e w' => ∃ v1_ v2_ v3_ v4_ : Value, e = .returned (.tuple #[.agg #[.int .i64 r1, v1_, v2_], v3_, v4_, .int .i64 r6]) ∧ Kd.R (Kd.int .i64) 3 w' w.heap.size (fun k_ => some k_ ≠ (v3_ : Value).ownBlock ∧ some k_ ≠ (v4_ : Value).ownBlock) v1_ r2 ∧ Kd.R (Kd.slice 37 k37) 34 w' w.heap.size (fun _ => True) v2_ r3 ∧ Kd.R (Kd.int .i64) 3 w' w.heap.size (fun k_ => some k_ ≠ (v1_ : Value).ownBlock ∧ some k_ ≠ (v4_ : Value).ownBlock) v3_ r4 ∧ Kd.R (Kd.int .i64) 3 w' w.heap.size (fun k_ => some k_ ≠ (v1_ : Value).ownBlock ∧ some k_ ≠ (v3_ : Value).ownBlock) v4_ r5 ∧ Below w.heap.size w w' := by
 have hu46 := Try.underlying28
 have hu25 := Try.underlying25
 have HR0 := Z.k hr0
 have HC0 := Z.k hc0
 clear hr0 hc0
 have HB := Z.k (Below.refl w.heap.size w)
 have H := h
 clear h
 unfold spec_DrawChangesTo.f at H
 revert H; refine Z.bd ?_; rintro ⟨t591, t592⟩ A2 H
 try dsimp only at H
 revert H; refine Z.bd ?_; rintro ⟨t594, t595, t598, t601, t604⟩ A3 H
 try dsimp only at H
 obtain ⟨y606, hy606⟩ : ∃ y_ : List Int, y_ = (([] : List Int)) := ⟨_, rfl⟩
 replace H : (spec_DrawChangesTo.l0 k t601 y606 0 t591 t604 t594 t595 t598) = some (r1, r2, r3, r4, r5, r6) := by (rw [hy606]; with_reducible exact H)
 have Ny606 := Z.k hy606
 clear hy606
 have H' := Z.k H
 clear H
 go_enter Try.func40, Try.ntmps40
 go_wp2_with (first | ((with_reducible refine gate_dst (N := 2) rfl ?_); refine Z.bx #[.int .i64 0, .slice none 0 0, .slice none 0 0] 28 HB ?_; clear HB; intro gb590 w4 BK590 GE590 HB hg hb; have GW590 := GE590; clear hb hg) | ((with_reducible refine gate_callee (f := 56) rfl ?_); refine goesL_ (some 13) rfl rfl Try.func56 (by kernel_rfl) rfl #[.slice A0 l0.length c0] rfl Z.ar ?_; (with_reducible refine (spec_l20Open.calls _ _ l0 t591 t592 w _ ?q1 ?q2 ?q3 A2.out).mono ?_); (case q1 => exact HB.out); (case q2 => exact HR0.out); (case q3 => exact HC0.out); rintro e w5 ⟨g593, rfl, hi, hb, hb2⟩; refine ⟨_, rfl, ?_⟩; replace HB := Z.k hb; have HI593 := Z.k hi; have NB593_590 := Z.k (IsS92.ne_blk hi (blk_below (g := gb590) (o := .cells #[.int .i64 0, .slice none 0 0, .slice none 0 0] 28 (0, 0)) (Z.bk BK590.out) hb2) (by decide)); have NB590_593 := Z.k (Ne.symm (IsS92.ne_blk hi (blk_below (g := gb590) (o := .cells #[.int .i64 0, .slice none 0 0, .slice none 0 0] 28 (0, 0)) (Z.bk BK590.out) hb2) (by decide))); replace BK590 := Z.k (blk_below (g := gb590) (o := .cells #[.int .i64 0, .slice none 0 0, .slice none 0 0] 28 (0, 0)) (Z.bk BK590.out) hb2); (try clear hb hb2 hi)) | ((with_reducible refine gate_callee (f := 57) rfl ?_); refine goesL_ (some 16) rfl rfl Try.func57 (by kernel_rfl) rfl #[.pointer (some ⟨g593, 0, none⟩), .int .i64 14] rfl Z.ar ?_; (with_reducible refine (spec_l20State.calls k g593 t591 t592 14 t594 t595 t598 t601 t604 w _ ?q1 ?q2 A3.out).mono ?_); (case q1 => exact HI593.out); (case q2 => exact HB.out); rintro e w6 ⟨v596, v599, v602, rfl, ho0, ho1, ho2, hi, hb, hk⟩; refine ⟨_, rfl, ?_⟩; replace BK590 := Z.kb hk BK590 NB590_593; have HO597 := Z.k (Kd.R_lower ho0 (below_size HB.out)); have HO600 := Z.k (Kd.R_lower ho1 (below_size HB.out)); have HO603 := Z.k (Kd.R_lower ho2 (below_size HB.out)); replace HB := Z.k hb; replace HI593 := Z.k hi; (try clear hb hk hi); (try clear ho0 ho1 ho2)) | ((with_reducible refine gate_dst (N := 7) rfl ?_); refine box_event ?hg (N := 7) ?hd (cs := #[.int .i64 0, .slice none 0 0, .slice none 0 0]) (t := 28) ?hr ?_; (case hd | hg => rfl); (case hr => (go_simp; done)); intro gb605 hg w7 hbox hb; replace HO597 := Z.rb HO597 hb; replace HO600 := Z.rb HO600 hb; replace HO603 := Z.rb HO603 hb; have BK605 := Z.k hbox; have GW605 := Z.k ((by rw [hg]; exact (below_size HB.out) : w.heap.size ≤ gb605)); have GE605 := Z.k ((by rw [hg]; exact (below_size HB.out) : w.heap.size ≤ gb605)); replace HB := Z.k (below_step HB.out hb); have NB590_605 := Z.nl hg BK590; have NB605_590 := Z.ng hg BK590; replace BK590 := Z.bb BK590 hb; have NB593_605 := Z.k ((by rw [hg]; exact Nat.ne_of_lt (IsS92.lt HI593.out) : g593 ≠ gb605)); have NB605_593 := Z.k ((by rw [hg]; exact Nat.ne_of_gt (IsS92.lt HI593.out) : gb605 ≠ g593)); replace HI593 := Z.k (IsS92.below HI593.out hb); clear hb hbox hg; have hnb8 := NB605_590.out; have hnc8 := NB590_605.out; have hnb9 := NB605_593.out; have hnc9 := NB593_605.out; have hcz10 := Z.c3 BK605.out; obtain ⟨Ao11, co11, eo11⟩ := Kd.R_slice HO597.out; subst eo11; obtain ⟨Ao12, co12, eo12⟩ := Kd.R_slice HO600.out; subst eo12) | ((with_reducible refine gate_dst (N := 19) rfl ?_); refine Kd.R_lit (Kd.int .i64) _ 3 ?hg (N := 19) ?hd (xs := ([] : List Int)) (inner := []) (ok := fun _ => True) (okp := fun _ => True) ?hr ?hp (fun _ hk => hk) trivial (Below.refl _ _) (Nat.le_refl _) (by simp) ?_; (case hd | hg => rfl); (case hr => (go_simp; done)); (case hp => exact (Reps.none _ _)); intro v607 w13 ho14 hb hg_ hnew_; clear hg_ hnew_; (rw [← Ny606.out] at ho14); replace HO600 := Z.k (Kd.R_below (Kd.R_mono (Kd.R_far (p := ⟨gb605, 2, none⟩) (Kd.R_far (p := ⟨gb605, 1, none⟩) (Kd.R_far (p := ⟨gb605, 0, none⟩) (Kd.R_types HO600.out BK605.out (by decide)) (fun _ hk => hk.2) (.int .i64 t594)) (fun _ hk => hk.2) (.slice Ao11 t595.length co11)) (fun _ hk => hk.2) (.slice Ao12 t598.length co12)) (fun _ h_ => h_.1)) hb); have HO608 := Z.k (Kd.R_lower (Kd.R_new' (Kd.R_new' ho14 (Kd.R_lt (Kd.R_mono (Kd.R_far (p := ⟨gb605, 2, none⟩) (Kd.R_far (p := ⟨gb605, 1, none⟩) (Kd.R_far (p := ⟨gb605, 0, none⟩) (Kd.R_types HO597.out BK605.out (by decide)) (fun _ hk => hk.2) (.int .i64 t594)) (fun _ hk => hk.2) (.slice Ao11 t595.length co11)) (fun _ hk => hk.2) (.slice Ao12 t598.length co12)) (fun _ h_ => h_.1)))) (Kd.R_lt (Kd.R_mono (Kd.R_far (p := ⟨gb605, 2, none⟩) (Kd.R_far (p := ⟨gb605, 1, none⟩) (Kd.R_far (p := ⟨gb605, 0, none⟩) (Kd.R_types HO603.out BK605.out (by decide)) (fun _ hk => hk.2) (.int .i64 t594)) (fun _ hk => hk.2) (.slice Ao11 t595.length co11)) (fun _ hk => hk.2) (.slice Ao12 t598.length co12)) (fun _ h_ => h_.1)))) (below_size (by repeat ((with_reducible first | exact HB.out | refine below_set ?_ GE605.out))))); replace HO597 := Z.k (Kd.R_elder' (Kd.R_mono (Kd.R_far (p := ⟨gb605, 2, none⟩) (Kd.R_far (p := ⟨gb605, 1, none⟩) (Kd.R_far (p := ⟨gb605, 0, none⟩) (Kd.R_types HO597.out BK605.out (by decide)) (fun _ hk => hk.2) (.int .i64 t594)) (fun _ hk => hk.2) (.slice Ao11 t595.length co11)) (fun _ hk => hk.2) (.slice Ao12 t598.length co12)) (fun _ h_ => h_.1)) (Kd.R_base ho14) hb); replace HO603 := Z.k (Kd.R_elder' (Kd.R_mono (Kd.R_far (p := ⟨gb605, 2, none⟩) (Kd.R_far (p := ⟨gb605, 1, none⟩) (Kd.R_far (p := ⟨gb605, 0, none⟩) (Kd.R_types HO603.out BK605.out (by decide)) (fun _ hk => hk.2) (.int .i64 t594)) (fun _ hk => hk.2) (.slice Ao11 t595.length co11)) (fun _ hk => hk.2) (.slice Ao12 t598.length co12)) (fun _ h_ => h_.1)) (Kd.R_base ho14) hb); replace BK590 := Z.k (blk_below (g := gb590) (o := .cells #[.int .i64 0, .slice none 0 0, .slice none 0 0] 28 (0, 0)) (by refine blk_far ?_ NB590_605.out _; refine blk_far ?_ NB590_605.out _; refine blk_far ?_ NB590_605.out _; exact BK590.out) hb); replace BK605 := Z.k (blk_below (g := gb605) (o := .cells #[.int .i64 t594, .slice Ao11 t595.length co11, .slice Ao12 t598.length co12] 28 (0, 0)) (by refine blk_put (cs := #[.int .i64 t594, .slice Ao11 t595.length co11, .slice none 0 0]) ?_ 2 _ rfl; refine blk_put (cs := #[.int .i64 t594, .slice none 0 0, .slice none 0 0]) ?_ 1 _ rfl; refine blk_put (cs := #[.int .i64 0, .slice none 0 0, .slice none 0 0]) ?_ 0 _ rfl; exact BK605.out) hb); replace HB := Z.k (below_step (by repeat ((with_reducible first | exact HB.out | refine below_set ?_ GE605.out))) hb); replace HI593 := Z.k (IsS92.below (show IsS92 w (((w7.setCell ⟨gb605, 0, none⟩ (.int .i64 t594)).setCell ⟨gb605, 1, none⟩ (.slice Ao11 t595.length co11)).setCell ⟨gb605, 2, none⟩ (.slice Ao12 t598.length co12)) g593 t591 t604 from by repeat ((with_reducible first | exact HI593.out | refine IsS92.far ?_ NB593_605.out _))) hb); clear hb ho14))
 go_loopg [9, 10] k (fun kq v9 v10 w' => ∃ (x9_1 : List Int) (x10_1 : Int) (x594001_1 : Int), v10 = .int .i64 x10_1 ∧ Aside0 (spec_DrawChangesTo.l0 kq t601 x9_1 x10_1 t591 x594001_1 t594 t595 t598 = some (r1, r2, r3, r4, r5, r6)) ∧ Aside0 (kq ≤ k) ∧ Aside0 (Kd.R (Kd.int .i64) 3 w' w.heap.size (fun k_ => some k_ ≠ (v9 : Value).ownBlock ∧ some k_ ≠ ((.slice Ao11 t595.length co11) : Value).ownBlock) v602 t601) ∧ Aside0 (Kd.R (Kd.int .i64) 3 w' w.heap.size (fun k_ => some k_ ≠ (v602 : Value).ownBlock ∧ some k_ ≠ ((.slice Ao11 t595.length co11) : Value).ownBlock) v9 x9_1) ∧ Aside0 (Kd.R (Kd.int .i64) 3 w' w.heap.size (fun k_ => some k_ ≠ (v602 : Value).ownBlock ∧ some k_ ≠ (v9 : Value).ownBlock) (.slice Ao11 t595.length co11) t595) ∧ Aside0 (Kd.R (Kd.slice 37 k37) 34 w' w.heap.size (fun _ => True) (.slice Ao12 t598.length co12) t598) ∧ Aside0 (w'.heap[gb590]? = some (.cells #[.int .i64 0, (.slice none 0 0), (.slice none 0 0)] 28 (0, 0))) ∧ Aside0 (w'.heap[gb605]? = some (.cells #[.int .i64 t594, (.slice Ao11 t595.length co11), (.slice Ao12 t598.length co12)] 28 (0, 0))) ∧ Aside0 (IsS92 w w' g593 t591 x594001_1) ∧ Aside0 (Below w.heap.size w w'))
 case atStart => exact ⟨(y606), (0), (t604), (by rfl), H', ⟨Nat.le_refl _⟩, ⟨by exact Kd.R_mono HO603.out (fun _ hk => ⟨hk.2, hk.1⟩)⟩, ⟨by exact Kd.R_mono HO608.out (fun _ hk => ⟨hk.2, hk.1.2⟩)⟩, ⟨by exact HO597.out⟩, ⟨by exact HO600.out⟩, ⟨by exact BK590.out⟩, ⟨by exact BK605.out⟩, ⟨HI593.out⟩, ⟨HB.out⟩⟩
 clear H'
 obtain ⟨x9_1, x10_1, x594001_1, rfl, HA, HK1, HO_8, HO_9, HO_606001, HO_606002, BK590, BK605, HI593, HB⟩ := hrel
 cases gk with
 | zero => exact absurd HA.out (by simp [spec_DrawChangesTo.l0])
 | succ k1 =>
  have H := HA.out
  clear HA
  simp only [spec_DrawChangesTo.l0] at H
  revert H; refine Z.fm ?_ ?_ <;> intro c15b0 H
  ·revert H; refine Z.bd ?_; rintro ⟨t620, t621⟩ A36 H
   try dsimp only at H
   simp only [Option.some.injEq, Prod.mk.injEq] at H
   obtain ⟨rfl, rfl, rfl, rfl, rfl, rfl⟩ := H
   obtain ⟨Ao37, co37, eo37⟩ := Kd.R_slice HO_8.out
   subst eo37
   try go_wp2
   replace HO_8 := Z.k (Kd.R_drew HO_8.out)
   replace HO_9 := Z.k (Kd.R_drew HO_9.out)
   replace HO_606001 := Z.k (Kd.R_drew HO_606001.out)
   replace HO_606002 := Z.k (Kd.R_drew HO_606002.out)
   replace BK590 := Z.k (blk_drew BK590.out)
   replace BK605 := Z.k (blk_drew BK605.out)
   replace HI593 := Z.k (IsS92.drew HI593.out)
   replace HB := Z.k (below_drew1 HB.out)
   refine start_ (n := 11) (S := fun w' => w'.cell? ⟨gb605, 0, none⟩ = some (.int .i64 t594) ∧ w'.cell? ⟨gb605, 1, none⟩ = some (.slice Ao11 t595.length co11) ∧ w'.cell? ⟨gb605, 2, none⟩ = some (.slice Ao12 t598.length co12)) (ds := []) (Z.mb 11 0) (by kernel_rfl) rfl rfl ⟨Z.b BK605 0, Z.b BK605 1, Z.b BK605 2⟩ (fun hHeld => ?_); refine with_tabW spec_DrawChangesTo.tab11 spec_DrawChangesTo.bits11 (fun HT_ HW_ => ?_)
   generalize wr.drew = w38 at HO_8 HO_9 HO_606001 HO_606002 BK590 BK605 HI593 HB hHeld ⊢
   refine Z.pv 1 46 11 2 HT_.out ?_
   refine Z.pv 2 47 11 6 HT_.out ?_
   refine Z.pv 3 48 11 14 HT_.out ?_
   refine Z.pv 4 49 11 30 HT_.out ?_
   refine Z.t3 0 45 11 31 HT_.out HW_.out hHeld ?_
   refine Z.t3 5 50 11 63 HT_.out HW_.out hHeld ?_
   refine one_ (i := 6) (N := some 51) (Z.mb 11 127) rfl rfl (one_of HT_.out (by kernel_rfl)) (by decide) (fun K hK => ?_)
   refine goes_ Try.func58 (by kernel_rfl) rfl #[.pointer (some ⟨g593, 0, none⟩), .agg #[.int .i64 t594, .slice Ao11 t595.length co11]] (by rfl) rfl rfl Z.ar ?_
   with_reducible refine (spec_l20Crowd.calls k1 g593 t591 x594001_1 t594 _ _ t595 t620 t621 w _ ?q1 ?q2 ?q3 ?q4 ?q5 A36.out).mono ?_
   (case q1 => exact HI593.out)
   (case q2 => exact HB.out)
   (case q3 => exact (Kd.R_reads' HO_606001.out).2.2)
   (case q4 => exact (Kd.R_reads' HO_606001.out).2.1)
   (case q5 => exact far_slice (IsS92.own_ne HI593.out HO_606001.out (by decide)))
   rintro e w39 ⟨rfl, hi, hb, hk⟩
   refine ⟨_, rfl, ?_⟩
   replace HO_8 := rk HI593 HO_8 hk
   replace HO_9 := rk HI593 HO_9 hk
   replace HO_606001 := rk HI593 HO_606001 hk
   replace HO_606002 := rk HI593 HO_606002 hk
   replace BK590 := Z.kb hk BK590 NB590_593
   replace BK605 := Z.kb hk BK605 NB605_593
   replace HB := Z.k hb
   replace HI593 := Z.k hi
   (try clear hb)
   (try clear hk)
   (try clear hi)
   refine hK.out _ _ ⟨Z.b BK605 0, Z.b BK605 1, Z.b BK605 2⟩ (fun hHeld => ?_)
   clear hK K
   refine Z.nm ?_
   refine one_ (i := 7) (N := none) #[true, true, true, true, true, true, true, true, false, false, false] rfl rfl (one_of HT_.out (by kernel_rfl)) (by decide) (fun K hK => ?_)
   have hs40 : w39.cell? ⟨gb590, 0, none⟩ = some (.int .i64 0) := Z.b BK590 0
   have hfs40 := blk_frozen BK590.out 0
   have hns40_1 := NB605_590.out
   have hms40_1 := NB590_605.out
   have hs41 : w39.cell? ⟨gb590, 1, none⟩ = some (.slice none 0 0) := Z.b BK590 1
   have hfs41 := blk_frozen BK590.out 1
   have hns41_1 := NB605_590.out
   have hms41_1 := NB590_605.out
   have hs42 : w39.cell? ⟨gb590, 2, none⟩ = some (.slice none 0 0) := Z.b BK590 2
   have hfs42 := blk_frozen BK590.out 2
   have hns42_1 := NB605_590.out
   have hms42_1 := NB590_605.out
   refine skip_ (w1 := ?_) (by rfl) rfl ?_ ?_
   rotate_left
   ·go_simp
    rfl
   refine hK.out _ _ ⟨(Z.f3 NB605_590.out (hHeld.1)), (Z.f3 NB605_590.out (hHeld.2.1)), (Z.f3 NB605_590.out (hHeld.2.2))⟩ (fun hHeld => ?_)
   clear hK K
   refine Z.pv 8 3 11 511 HT_.out ?_
   refine Z.pv 9 4 11 1023 HT_.out ?_
   refine Z.pv 10 5 11 2047 HT_.out ?_
   refine done_ (done_of HT_.out (by kernel_rfl)) ?_
   try go_wp2
   refine bodyPost_ret (results_list (rs := [.cell 2 28, .tmp 3, .tmp 4, .tmp 5]) rfl (by simp) (.cell gb590 28 #[.int .i64 t594, .slice Ao11 t595.length co11, .slice Ao12 t598.length co12] (0, 0) _ rfl (by refine blk_put (cs := #[.int .i64 t594, .slice Ao11 t595.length co11, .slice none 0 0]) ?_ 2 _ rfl; refine blk_put (cs := #[.int .i64 t594, .slice none 0 0, .slice none 0 0]) ?_ 1 _ rfl; refine blk_put (cs := #[.int .i64 0, .slice none 0 0, .slice none 0 0]) ?_ 0 _ rfl; exact BK590.out) Try.underlying28 rfl (by kernel_rfl) (.tmp (.tmp (.tmp .nil))))) rfl ?_
   exact ⟨_, _, _, _, by rfl, by exact Kd.R_mono (Kd.R_far (p := ⟨gb590, 2, none⟩) (Kd.R_far (p := ⟨gb590, 1, none⟩) (Kd.R_far (p := ⟨gb590, 0, none⟩) (Kd.R_types HO_606001.out BK590.out (by decide)) (fun _ hk => hk.2) (.int .i64 t594)) (fun _ hk => hk.2) (.slice Ao11 t595.length co11)) (fun _ hk => hk.2) (.slice Ao12 t598.length co12)) (fun _ hk => ⟨hk.1.1, hk.1.2⟩), by exact Kd.R_mono (Kd.R_far (p := ⟨gb590, 2, none⟩) (Kd.R_far (p := ⟨gb590, 1, none⟩) (Kd.R_far (p := ⟨gb590, 0, none⟩) (Kd.R_types HO_606002.out BK590.out (by decide)) (fun _ hk => hk.2) (.int .i64 t594)) (fun _ hk => hk.2) (.slice Ao11 t595.length co11)) (fun _ hk => hk.2) (.slice Ao12 t598.length co12)) (fun _ hk => trivial), by exact Kd.R_mono (Kd.R_far (p := ⟨gb590, 2, none⟩) (Kd.R_far (p := ⟨gb590, 1, none⟩) (Kd.R_far (p := ⟨gb590, 0, none⟩) (Kd.R_types HO_8.out BK590.out (by decide)) (fun _ hk => hk.2) (.int .i64 t594)) (fun _ hk => hk.2) (.slice Ao11 t595.length co11)) (fun _ hk => hk.2) (.slice Ao12 t598.length co12)) (fun _ hk => ⟨hk.1.2, hk.1.1⟩), by exact Kd.R_mono (Kd.R_far (p := ⟨gb590, 2, none⟩) (Kd.R_far (p := ⟨gb590, 1, none⟩) (Kd.R_far (p := ⟨gb590, 0, none⟩) (Kd.R_types HO_9.out BK590.out (by decide)) (fun _ hk => hk.2) (.int .i64 t594)) (fun _ hk => hk.2) (.slice Ao11 t595.length co11)) (fun _ hk => hk.2) (.slice Ao12 t598.length co12)) (fun _ hk => ⟨hk.1.2, hk.1.1⟩), by repeat ((with_reducible first | exact HB.out | refine below_set ?_ GE590.out))⟩

  revert H; refine Z.fm ?_ ?_ <;> intro c16b0 H
  ·revert H; refine Z.bd ?_; rintro ⟨t615, t616⟩ A28 H
   try dsimp only at H
   obtain ⟨c29, H⟩ := Z.ifp H
   have LMc29 := Z.k c29
   clear c29
   rw [Int.tmod_one] at H
   obtain ⟨y617, hy617⟩ : ∃ y_ : List Int, y_ = (x9_1 ++ [0]) := ⟨_, rfl⟩
   replace H : (spec_DrawChangesTo.l0 k1 t601 y617 (wrap64 (x10_1 + 1)) t591 t616 t594 t595 t598) = some (r1, r2, r3, r4, r5, r6) := by (rw [hy617]; with_reducible exact H)
   have Ny617 := Z.k hy617
   clear hy617
   have H' := Z.k H
   clear H
   obtain ⟨Ao30, co30, eo30⟩ := Kd.R_slice HO_8.out
   subst eo30
   have hnb31 := NB605_590.out
   have hnc31 := NB590_605.out
   have hnb32 := NB605_593.out
   have hnc32 := NB593_605.out
   have hcz33 := Z.c3 BK605.out
   go_wp2_with (first | ((with_reducible refine gate_callee (f := 73) rfl ?_); refine goesL_ (some 40) rfl rfl Try.func73 (by kernel_rfl) rfl #[.pointer (some ⟨g593, 0, none⟩), .int .i64 3] rfl Z.ar ?_; (with_reducible refine (spec_l20Rd_pick.calls k1 g593 t591 x594001_1 3 t615 t616 w _ ?q1 ?q2 A28.out).mono ?_); (case q1 => exact HI593.out); (case q2 => exact HB.out); rintro e w34 ⟨rfl, hi, hb, hk⟩; refine ⟨_, rfl, ?_⟩; replace HO_8 := rk HI593 HO_8 hk; replace HO_9 := rk HI593 HO_9 hk; replace HO_606001 := rk HI593 HO_606001 hk; replace HO_606002 := rk HI593 HO_606002 hk; replace BK590 := Z.kb hk BK590 NB590_593; replace BK605 := Z.kb hk BK605 NB605_593; replace HB := Z.k hb; replace HI593 := Z.k hi; (try clear hb hk hi)) | ((with_reducible refine gate_builtin (b := .append) (xs := #[.tmp 38, .tmp 43]) rfl ?_); at_builtin; refine Kd.R_append (Kd.int .i64) (w0 := w) w.heap.size rfl (.tmp 38) (.tmp 43) 23 3 (.int .i64 0) 8 rfl Try.underlying23 info3 rfl (by decide) (by omega) u9 x9_1 (0) [.int .i64 (0)] (fun k_ => some k_ ≠ (.slice Ao30 t601.length co30 : Value).ownBlock ∧ some k_ ≠ (.slice Ao11 t595.length co11 : Value).ownBlock) (fun _ => False) rfl rfl ?aP (fun _ hk => hk.elim) ?aF ?aO ?aB ?aS ?aL ?_; (case aP => exact rfl); (case aB => exact HB.out); (case aF => exact (fun k_ hk => ⟨Kd.fresh' (Kd.R_lt HO_8.out) k_ hk, Kd.fresh' (Kd.R_lt HO_606001.out) k_ hk⟩)); (case aO => exact HO_9.out); (case aS => exact (below_size HB.out)); (case aL => have := LMc29.out; omega); intro v618 w35 ho hb hg hat; rw [← Ny617.out] at ho; replace HO_8 := Z.k (Kd.R_after (ok := (fun k_ => some k_ ≠ (.slice Ao11 t595.length co11 : Value).ownBlock)) (Kd.R_mono HO_8.out (fun _ hk => ⟨hk.2, hk.1⟩)) hg hat); replace HO_606001 := Z.k (Kd.R_after (ok := (fun k_ => some k_ ≠ (.slice Ao30 t601.length co30 : Value).ownBlock)) HO_606001.out hg hat); replace HO_606002 := Z.k (Kd.R_over' HO_606002.out (Kd.R_typed HO_9.out) (by decide) hg); replace BK590 := Z.gb hg HO_9 BK590; replace BK605 := Z.gb hg HO_9 BK605; replace HI593 := Z.k (IsS92.grown HI593.out hg (IsS92.own_ne HI593.out HO_9.out (by decide))); replace HB := Z.k hb; have HO619 := Z.k ho; clear HO_9; clear ho hb hg hat))
   go_roundg k1
   case measure => have := HK1.out; omega
   case rel => exact ⟨(y617), (wrap64 (x10_1 + 1)), (t616), (by rfl), H', ⟨by have := HK1.out; omega⟩, ⟨by exact Kd.R_mono HO_8.out (fun _ hk => ⟨hk.2, hk.1⟩)⟩, ⟨by exact HO619.out⟩, ⟨by exact HO_606001.out⟩, ⟨by exact HO_606002.out⟩, ⟨by exact BK590.out⟩, ⟨by exact BK605.out⟩, ⟨HI593.out⟩, ⟨HB.out⟩⟩
  obtain ⟨c17b0, H⟩ := Z.fd H
  obtain ⟨ji18, hji18⟩ : ∃ j_ : Int, (mx ((rd_L5 t598 x10_1).length : Int) 1) = j_ := ⟨_, rfl⟩
  replace H : ((spec_l20Rd_pick.f k1 t591 x594001_1 3).bind fun bt610 => (if (ji18) = 0 then (none) else (if x9_1.length < 17592186044416 then (spec_DrawChangesTo.l0 k1 t601 (x9_1 ++ [Int.tmod bt610.1 (ji18)]) (wrap64 (x10_1 + 1)) t591 bt610.2 t594 t595 t598) else (none)))) = some (r1, r2, r3, r4, r5, r6) := by (rw [hji18] at H; exact H)
  have hji18_ : (if ((rd_L5 t598 x10_1).length : Int) < 1 then 1 else ((rd_L5 t598 x10_1).length : Int)) = ji18 := hji18
  revert H; refine Z.bd ?_; rintro ⟨t610, t611⟩ A19 H
  try dsimp only at H
  obtain ⟨c20, H⟩ := Z.ifq H
  have c20b0 : ((ji18) == 0) = false := beq_eq_false_iff_ne.mpr c20
  have c20b1 : ((ji18) != 0) = true := bne_iff_ne.mpr c20
  obtain ⟨c21, H⟩ := Z.ifp H
  have LMc21 := Z.k c21
  clear c21
  obtain ⟨y612, hy612⟩ : ∃ y_ : List Int, y_ = (x9_1 ++ [Int.tmod t610 (ji18)]) := ⟨_, rfl⟩
  replace H : (spec_DrawChangesTo.l0 k1 t601 y612 (wrap64 (x10_1 + 1)) t591 t611 t594 t595 t598) = some (r1, r2, r3, r4, r5, r6) := by (rw [hy612]; with_reducible exact H)
  have Ny612 := Z.k hy612
  clear hy612
  have H' := Z.k H
  clear H
  obtain ⟨Ao22, co22, eo22⟩ := Kd.R_slice HO_8.out
  subst eo22
  have hnb23 := NB605_590.out
  have hnc23 := NB590_605.out
  have hnb24 := NB605_593.out
  have hnc24 := NB593_605.out
  have hcz25 := Z.c3 BK605.out
  have p609 : 0 ≤ (x10_1 : Int) := Z.od
  have q609 : x10_1 < (t598.length : Int) := Z.od
  obtain ⟨ad609, A609_0, c609_0, e609, hx609_0, hl609_0, hi609_0⟩ := at_L5 (Kd.R_reads' HO_606002.out).2.2 x10_1 p609 q609
  cases e609
  obtain ⟨ce609, hce609, hMe609, hcc609⟩ := Kd.R_get HO_606002.out [] x10_1 p609 q609
  obtain ⟨ve609_0, rfl, ge609_0⟩ := hMe609
  have hv609_0 := hcc609 0 _ rfl
  rw [Nat.add_zero, show ((Kd.slice 37 k37)).sz = 1 from rfl, Nat.mul_one] at hv609_0
  replace hv609_0 := Option.some.inj (hv609_0.symm.trans hx609_0)
  rw [hv609_0] at ge609_0
  have HL609_0 := Z.k (show Kd.R k37 37 _ _ _ _ (rd_L5 t598 x10_1) from ge609_0)
  clear hv609_0 ge609_0
  clear hcc609 hce609
  have HR609_0 := Z.k hi609_0
  have HC609_0 := Z.k hl609_0
  clear hi609_0 hl609_0
  replace p609 := eq_true p609
  replace q609 := eq_true q609
  go_wp2_with (first | ((with_reducible refine gate_callee (f := 73) rfl ?_); refine goesL_ (some 40) rfl rfl Try.func73 (by kernel_rfl) rfl #[.pointer (some ⟨g593, 0, none⟩), .int .i64 3] rfl Z.ar ?_; (with_reducible refine (spec_l20Rd_pick.calls k1 g593 t591 x594001_1 3 t610 t611 w _ ?q1 ?q2 A19.out).mono ?_); (case q1 => exact HI593.out); (case q2 => exact HB.out); rintro e w26 ⟨rfl, hi, hb, hk⟩; refine ⟨_, rfl, ?_⟩; replace HO_8 := rk HI593 HO_8 hk; replace HO_9 := rk HI593 HO_9 hk; replace HO_606001 := rk HI593 HO_606001 hk; replace HO_606002 := rk HI593 HO_606002 hk; replace BK590 := Z.kb hk BK590 NB590_593; replace BK605 := Z.kb hk BK605 NB605_593; replace HL609_0 := rk HI593 HL609_0 hk; replace HB := Z.k hb; replace HI593 := Z.k hi; (try clear hb hk hi)) | ((with_reducible refine gate_builtin (b := .append) (xs := #[.tmp 38, .tmp 43]) rfl ?_); at_builtin; refine Kd.R_append (Kd.int .i64) (w0 := w) w.heap.size rfl (.tmp 38) (.tmp 43) 23 3 (.int .i64 0) 8 rfl Try.underlying23 info3 rfl (by decide) (by omega) u9 x9_1 (Int.tmod t610 (ji18)) [.int .i64 (Int.tmod t610 (ji18))] (fun k_ => some k_ ≠ (.slice Ao22 t601.length co22 : Value).ownBlock ∧ some k_ ≠ (.slice Ao11 t595.length co11 : Value).ownBlock) (fun _ => False) rfl rfl ?aP (fun _ hk => hk.elim) ?aF ?aO ?aB ?aS ?aL ?_; (case aP => exact rfl); (case aB => exact HB.out); (case aF => exact (fun k_ hk => ⟨Kd.fresh' (Kd.R_lt HO_8.out) k_ hk, Kd.fresh' (Kd.R_lt HO_606001.out) k_ hk⟩)); (case aO => exact HO_9.out); (case aS => exact (below_size HB.out)); (case aL => have := LMc21.out; omega); intro v613 w27 ho hb hg hat; rw [← Ny612.out] at ho; replace HO_8 := Z.k (Kd.R_after (ok := (fun k_ => some k_ ≠ (.slice Ao11 t595.length co11 : Value).ownBlock)) (Kd.R_mono HO_8.out (fun _ hk => ⟨hk.2, hk.1⟩)) hg hat); replace HO_606001 := Z.k (Kd.R_after (ok := (fun k_ => some k_ ≠ (.slice Ao22 t601.length co22 : Value).ownBlock)) HO_606001.out hg hat); replace HO_606002 := Z.k (Kd.R_over' HO_606002.out (Kd.R_typed HO_9.out) (by decide) hg); replace BK590 := Z.gb hg HO_9 BK590; replace BK605 := Z.gb hg HO_9 BK605; replace HI593 := Z.k (IsS92.grown HI593.out hg (IsS92.own_ne HI593.out HO_9.out (by decide))); replace HL609_0 := Z.k (Kd.R_over' HL609_0.out (Kd.R_typed HO_9.out) (by decide) hg); replace HB := Z.k hb; have HO614 := Z.k ho; clear HO_9; clear ho hb hg hat))
  go_roundg k1
  case measure => have := HK1.out; omega
  case rel => exact ⟨(y612), (wrap64 (x10_1 + 1)), (t611), (by rfl), H', ⟨by have := HK1.out; omega⟩, ⟨by exact Kd.R_mono HO_8.out (fun _ hk => ⟨hk.2, hk.1⟩)⟩, ⟨by exact HO614.out⟩, ⟨by exact HO_606001.out⟩, ⟨by exact HO_606002.out⟩, ⟨by exact BK590.out⟩, ⟨by exact BK605.out⟩, ⟨HI593.out⟩, ⟨HB.out⟩⟩
end Go.Proofs.Ytkogboechfieeaa.PAll

/- Walks of functions that laws of this seat reach, in the form of the print. -/
import Derived.Test.YtkogboechfieeaaCAll70
-- PRINTED
namespace Go.Proofs.Ytkogboechfieeaa.PAll
open Go.RowKit Go.Proofs.YtkogboechfieeaaW.PrintWords Go.Proofs.YtkogboechfieeaaW.PrintLast Go.Proofs.YtkogboechfieeaaW.PrintMore
attribute [local go_sem] max2_int min2_int max_two min_two max_three min_three max_four min_four
set_option linter.unusedVariables false
set_option linter.unusedSimpArgs false

/-! ### spec_l20State: function 57 -/
def spec_l20State.l0 : Nat → Int → List Int → Int → List Int → Int → Int → List Int → List (List (S37)) → Option (Int × List Int × (List (List (S37))) × List Int × Int)
 | 0, _, _, _, _, _, _, _, _ => none
 | k + 1, x1, x7, x8, x91, x78, x80, x72, x71 => if x8 < (x71.length : Int) then (if 0 ≤ x8 then ((spec_l20Rd_pick.f k x91 x78 (mx ((rd_L5 x71 x8).length : Int) 1)).bind fun bt81 => (if x7.length < 17592186044416 then (spec_l20State.l0 k x1 (x7 ++ [bt81.1]) (wrap64 (x8 + 1)) x91 bt81.2 x80 x72 x71) else (none))) else (none)) else ((spec_l20Rd_odd.f k x91 x78 x1).bind fun bt93 => (if bt93.1 = true then ((spec_l20Rd_pick.f k x91 bt93.2 2).bind fun bt79 => (if bt79.1 = 0 then (if x7.length < 17592186044416 then (some (x80, x72, x71, (x7 ++ [0]), bt79.2)) else (none)) else (if (x7.length : Int) > 0 then (if 0 < (x7.length : Int) then (some (x80, x72, x71, (x7.set (0 : Int).toNat 3), bt79.2)) else (none)) else (some (x80, x72, x71, x7, bt79.2))))) else (some (x80, x72, x71, x7, bt93.2))))
def spec_l20State.f (k : Nat) (s0_0 : List Int) (s0_1 : Int) (a1 : Int) : Option (Int × List Int × (List (List (S37))) × List Int × Int) := (spec_l20Charter.f k s0_0 s0_1 a1).bind fun bt74 => (spec_l20State.l0 k a1 (([] : List Int)) 0 s0_0 bt74.2.2.2 bt74.1 bt74.2.1 bt74.2.2.1)
set_option maxHeartbeats 8000000 in
set_option maxRecDepth 100000 in
theorem spec_l20State.calls (k : Nat) (g : Nat) (s0_0 : List Int) (s0_1 : Int) (a1 : Int) (r1 : Int) (r2 : List Int) (r3 : List (List (S37))) (r4 : List Int) (r5 : Int) (w0 w : World) (hI : IsS92 w0 w g s0_0 s0_1) (hB : Below w0.heap.size w0 w) (h : spec_l20State.f k s0_0 s0_1 a1 = some (r1, r2, r3, r4, r5)) :
  Calls Try.prog 57 #[.pointer (some ⟨g, 0, none⟩), .int .i64 a1] w fun e w' => ∃ v1_ v2_ v3_ : Value, e = .returned (.tuple #[.agg #[.int .i64 r1, v1_, v2_], v3_]) ∧ Kd.R (Kd.int .i64) 3 w' w.heap.size (fun k_ => some k_ ≠ (v3_ : Value).ownBlock) v1_ r2 ∧ Kd.R (Kd.slice 37 k37) 34 w' w.heap.size (fun _ => True) v2_ r3 ∧ Kd.R (Kd.int .i64) 3 w' w.heap.size (fun k_ => some k_ ≠ (v1_ : Value).ownBlock) v3_ r4 ∧ IsS92 w0 w' g s0_0 r5 ∧ Below w0.heap.size w0 w' ∧ KeepBut w w' g none := by
 have hu46 := Try.underlying28
 have HI0 := Z.k hI
 have HK := Z.k (KeepBut.refl w g none)
 have HL := Z.k hB.size
 clear hI
 have HW0 := Z.k hB.size
 have HB := Z.k hB
 clear hB
 have H := h
 clear h
 unfold spec_l20State.f at H
 revert H; refine Z.bd ?_; rintro ⟨t74, t75, t77, t95⟩ A3 H
 try dsimp only at H
 obtain ⟨y82, hy82⟩ : ∃ y_ : List Int, y_ = (([] : List Int)) := ⟨_, rfl⟩
 replace H : (spec_l20State.l0 k a1 y82 0 s0_0 t95 t74 t75 t77) = some (r1, r2, r3, r4, r5) := by (rw [hy82]; with_reducible exact H)
 have Ny82 := Z.k hy82
 clear hy82
 have H' := Z.k H
 clear H
 go_enter Try.func57, Try.ntmps57
 go_wp2_with (first | ((with_reducible refine gate_dst (N := 4) rfl ?_); refine box_event ?hg (N := 4) ?hd (cs := #[.int .i64 0, .slice none 0 0, .slice none 0 0]) (t := 28) ?hr ?_; (case hd | hg => rfl); (case hr => (go_simp; done)); intro gb68 hg w4 hbox hb; replace HB := Z.k (below_step HB.out hb); have BK68 := Z.k hbox; have GW68 := Z.k ((by rw [hg]; exact (keep_size (w := w) (g := g) (row := none) HK.out) : w.heap.size ≤ gb68)); have GE68 := Z.k ((Nat.le_trans HW0.out (by rw [hg]; exact (keep_size (w := w) (g := g) (row := none) HK.out) : w.heap.size ≤ gb68) : w0.heap.size ≤ gb68)); replace HK := Z.k (KeepBut.trans HK.out (KeepBut.of_below hb g none) (.inl rfl)); have NB0_68 := Z.k ((by rw [hg]; exact Nat.ne_of_lt (IsS92.lt HI0.out) : g ≠ gb68)); have NB68_0 := Z.k ((by rw [hg]; exact Nat.ne_of_gt (IsS92.lt HI0.out) : gb68 ≠ g)); replace HI0 := Z.k (IsS92.below HI0.out hb); clear hb hbox hg) | ((with_reducible refine gate_callee (f := 88) rfl ?_); refine goesL_ (some 11) rfl rfl Try.func88 (by kernel_rfl) rfl #[.pointer (some ⟨g, 0, none⟩), .int .i64 a1] rfl Z.ar ?_; (with_reducible refine (spec_l20Charter.calls k g s0_0 s0_1 a1 t74 t75 t77 t95 w0 _ ?q1 ?q2 A3.out).mono ?_); (case q1 => exact HI0.out); (case q2 => exact HB.out); rintro e w5 ⟨v566, v569, rfl, ho0, ho1, hi, hb, hk⟩; refine ⟨_, rfl, ?_⟩; replace BK68 := Z.kb hk BK68 NB68_0; have HO85 := Z.k (Kd.R_lower ho0 (keep_size (w := w) (g := g) (row := none) HK.out)); have HO90 := Z.k (Kd.R_lower ho1 (keep_size (w := w) (g := g) (row := none) HK.out)); replace HK := Z.k (KeepBut.trans HK.out hk (.inl rfl)); replace HB := Z.k hb; replace HI0 := Z.k hi; (try clear hb hk hi); (try clear ho0); (try clear ho1)) | ((with_reducible refine gate_dst (N := 6) rfl ?_); refine box_event ?hg (N := 6) ?hd (cs := #[.int .i64 0, .slice none 0 0, .slice none 0 0]) (t := 28) ?hr ?_; (case hd | hg => rfl); (case hr => (go_simp; done)); intro gb69 hg w6 hbox hb; replace HO85 := Z.rb HO85 hb; replace HO90 := Z.rb HO90 hb; replace HB := Z.k (below_step HB.out hb); have BK69 := Z.k hbox; have GW69 := Z.k ((by rw [hg]; exact (keep_size (w := w) (g := g) (row := none) HK.out) : w.heap.size ≤ gb69)); have GE69 := Z.k ((Nat.le_trans HW0.out (by rw [hg]; exact (keep_size (w := w) (g := g) (row := none) HK.out) : w.heap.size ≤ gb69) : w0.heap.size ≤ gb69)); replace HK := Z.k (KeepBut.trans HK.out (KeepBut.of_below hb g none) (.inl rfl)); have NB68_69 := Z.nl hg BK68; have NB69_68 := Z.ng hg BK68; replace BK68 := Z.bb BK68 hb; have NB0_69 := Z.k ((by rw [hg]; exact Nat.ne_of_lt (IsS92.lt HI0.out) : g ≠ gb69)); have NB69_0 := Z.k ((by rw [hg]; exact Nat.ne_of_gt (IsS92.lt HI0.out) : gb69 ≠ g)); replace HI0 := Z.k (IsS92.below HI0.out hb); clear hb hbox hg; have hnb7 := NB69_68.out; have hnc7 := NB68_69.out; have hnb8 := NB69_0.out; have hnc8 := NB0_69.out; have hcz9 := Z.c3 BK69.out; obtain ⟨Ao10, co10, eo10⟩ := Kd.R_slice HO85.out; subst eo10; obtain ⟨Ao11, co11, eo11⟩ := Kd.R_slice HO90.out; subst eo11) | ((with_reducible refine gate_dst (N := 12) rfl ?_); refine Kd.R_lit (Kd.int .i64) _ 3 ?hg (N := 12) ?hd (xs := ([] : List Int)) (inner := []) (ok := fun _ => True) (okp := fun _ => True) ?hr ?hp (fun _ hk => hk) trivial (Below.refl _ _) (Nat.le_refl _) (by simp) ?_; (case hd | hg => rfl); (case hr => (go_simp; done)); (case hp => exact (Reps.none _ _)); intro v574 w12 ho13 hb hg_ hnew_; clear hg_ hnew_; (rw [← Ny82.out] at ho13); replace HO90 := Z.k (Kd.R_below (Kd.R_mono (Kd.R_far (p := ⟨gb69, 2, none⟩) (Kd.R_far (p := ⟨gb69, 1, none⟩) (Kd.R_far (p := ⟨gb69, 0, none⟩) (Kd.R_types HO90.out BK69.out (by decide)) (fun _ hk => hk.2) (.int .i64 t74)) (fun _ hk => hk.2) (.slice Ao10 t75.length co10)) (fun _ hk => hk.2) (.slice Ao11 t77.length co11)) (fun _ h_ => h_.1)) hb); have HO97 := Z.k (Kd.R_lower (Kd.R_new' ho13 (Kd.R_lt (Kd.R_mono (Kd.R_far (p := ⟨gb69, 2, none⟩) (Kd.R_far (p := ⟨gb69, 1, none⟩) (Kd.R_far (p := ⟨gb69, 0, none⟩) (Kd.R_types HO85.out BK69.out (by decide)) (fun _ hk => hk.2) (.int .i64 t74)) (fun _ hk => hk.2) (.slice Ao10 t75.length co10)) (fun _ hk => hk.2) (.slice Ao11 t77.length co11)) (fun _ h_ => h_.1)))) (keep_size (w := w) (g := g) (row := none) (by repeat ((with_reducible first | exact HK.out | refine keep_far ?_ GW69.out _))))); replace HO85 := Z.k (Kd.R_elder' (Kd.R_mono (Kd.R_far (p := ⟨gb69, 2, none⟩) (Kd.R_far (p := ⟨gb69, 1, none⟩) (Kd.R_far (p := ⟨gb69, 0, none⟩) (Kd.R_types HO85.out BK69.out (by decide)) (fun _ hk => hk.2) (.int .i64 t74)) (fun _ hk => hk.2) (.slice Ao10 t75.length co10)) (fun _ hk => hk.2) (.slice Ao11 t77.length co11)) (fun _ h_ => h_.1)) (Kd.R_base ho13) hb); replace BK68 := Z.k (blk_below (g := gb68) (o := .cells #[.int .i64 0, .slice none 0 0, .slice none 0 0] 28 (0, 0)) (by refine blk_far ?_ NB68_69.out _; refine blk_far ?_ NB68_69.out _; refine blk_far ?_ NB68_69.out _; exact BK68.out) hb); replace BK69 := Z.k (blk_below (g := gb69) (o := .cells #[.int .i64 t74, .slice Ao10 t75.length co10, .slice Ao11 t77.length co11] 28 (0, 0)) (by refine blk_put (cs := #[.int .i64 t74, .slice Ao10 t75.length co10, .slice none 0 0]) ?_ 2 _ rfl; refine blk_put (cs := #[.int .i64 t74, .slice none 0 0, .slice none 0 0]) ?_ 1 _ rfl; refine blk_put (cs := #[.int .i64 0, .slice none 0 0, .slice none 0 0]) ?_ 0 _ rfl; exact BK69.out) hb); replace HK := Z.k (KeepBut.trans (by repeat ((with_reducible first | exact HK.out | refine keep_far ?_ GW69.out _))) (KeepBut.of_below hb g none) (.inl rfl)); replace HB := Z.k (below_step (by repeat ((with_reducible first | exact HB.out | refine below_set ?_ GE69.out))) hb); replace HI0 := Z.k (IsS92.below (show IsS92 w0 (((w6.setCell ⟨gb69, 0, none⟩ (.int .i64 t74)).setCell ⟨gb69, 1, none⟩ (.slice Ao10 t75.length co10)).setCell ⟨gb69, 2, none⟩ (.slice Ao11 t77.length co11)) g s0_0 t95 from by repeat ((with_reducible first | exact HI0.out | refine IsS92.far ?_ NB0_69.out _))) hb); clear hb ho13))
 go_loopg [7, 8] k (fun kq v7 v8 w' => ∃ (x7_1 : List Int) (x8_1 : Int) (x78_1 : Int), v8 = .int .i64 x8_1 ∧ Aside0 (spec_l20State.l0 kq a1 x7_1 x8_1 s0_0 x78_1 t74 t75 t77 = some (r1, r2, r3, r4, r5)) ∧ Aside0 (kq ≤ k) ∧ Aside0 (Kd.R (Kd.int .i64) 3 w' w.heap.size (fun k_ => some k_ ≠ ((.slice Ao10 t75.length co10) : Value).ownBlock) v7 x7_1) ∧ Aside0 (Kd.R (Kd.int .i64) 3 w' w.heap.size (fun k_ => some k_ ≠ (v7 : Value).ownBlock) (.slice Ao10 t75.length co10) t75) ∧ Aside0 (Kd.R (Kd.slice 37 k37) 34 w' w.heap.size (fun _ => True) (.slice Ao11 t77.length co11) t77) ∧ Aside0 (w'.heap[gb68]? = some (.cells #[.int .i64 0, (.slice none 0 0), (.slice none 0 0)] 28 (0, 0))) ∧ Aside0 (w'.heap[gb69]? = some (.cells #[.int .i64 t74, (.slice Ao10 t75.length co10), (.slice Ao11 t77.length co11)] 28 (0, 0))) ∧ Aside0 (IsS92 w0 w' g s0_0 x78_1) ∧ Aside0 (KeepBut w w' g none) ∧ Aside0 (Below w0.heap.size w0 w'))
 case atStart => exact ⟨(y82), (0), (t95), (by rfl), H', ⟨Nat.le_refl _⟩, ⟨by exact Kd.R_mono HO97.out (fun _ hk => hk.2)⟩, ⟨by exact Kd.R_mono HO85.out (fun _ hk => hk.2)⟩, ⟨by exact HO90.out⟩, ⟨by exact BK68.out⟩, ⟨by exact BK69.out⟩, ⟨HI0.out⟩, ⟨HK.out⟩, ⟨HB.out⟩⟩
 clear H'
 obtain ⟨x7_1, x8_1, x78_1, rfl, HA, HK1, HO_7, HO_72, HO_71, BK68, BK69, HI0, HK, HB⟩ := hrel
 cases gk with
 | zero => exact absurd HA.out (by simp [spec_l20State.l0])
 | succ k1 =>
  have H := HA.out
  clear HA
  simp only [spec_l20State.l0] at H
  revert H; refine Z.fc ?_ ?_ <;> intro c14b0 H
  ·obtain ⟨c15b0, H⟩ := Z.fd H
   obtain ⟨ji16, hji16⟩ : ∃ j_ : Int, (mx ((rd_L5 t77 x8_1).length : Int) 1) = j_ := ⟨_, rfl⟩
   replace H : ((spec_l20Rd_pick.f k1 s0_0 x78_1 (ji16)).bind fun bt81 => (if x7_1.length < 17592186044416 then (spec_l20State.l0 k1 a1 (x7_1 ++ [bt81.1]) (wrap64 (x8_1 + 1)) s0_0 bt81.2 t74 t75 t77) else (none))) = some (r1, r2, r3, r4, r5) := by (rw [hji16] at H; exact H)
   have hji16_ : (if ((rd_L5 t77 x8_1).length : Int) < 1 then 1 else ((rd_L5 t77 x8_1).length : Int)) = ji16 := hji16
   revert H; refine Z.bd ?_; rintro ⟨t81, t96⟩ A17 H
   try dsimp only at H
   obtain ⟨c18, H⟩ := Z.ifp H
   have LMc18 := Z.k c18
   clear c18
   obtain ⟨y83, hy83⟩ : ∃ y_ : List Int, y_ = (x7_1 ++ [t81]) := ⟨_, rfl⟩
   replace H : (spec_l20State.l0 k1 a1 y83 (wrap64 (x8_1 + 1)) s0_0 t96 t74 t75 t77) = some (r1, r2, r3, r4, r5) := by (rw [hy83]; with_reducible exact H)
   have Ny83 := Z.k hy83
   clear hy83
   have H' := Z.k H
   clear H
   have hnb19 := NB69_68.out
   have hnc19 := NB68_69.out
   have hnb20 := NB69_0.out
   have hnc20 := NB0_69.out
   have hcz21 := Z.c3 BK69.out
   have p76 : (0 ≤ (x8_1 : Int)) = True := Z.oe
   have q76 : (x8_1 < (t77.length : Int)) = True := Z.oe
   obtain ⟨ad76, A76_0, c76_0, e76, hx76_0, hl76_0, hi76_0⟩ := at_L5 (Kd.R_reads' HO_71.out).2.2 x8_1 Z.od Z.od
   cases e76
   obtain ⟨ce76, hce76, hMe76, hcc76⟩ := Kd.R_get HO_71.out [] x8_1 Z.od Z.od
   obtain ⟨ve76_0, rfl, ge76_0⟩ := hMe76
   have hv76_0 := hcc76 0 _ rfl
   rw [Nat.add_zero, show ((Kd.slice 37 k37)).sz = 1 from rfl, Nat.mul_one] at hv76_0
   replace hv76_0 := Option.some.inj (hv76_0.symm.trans hx76_0)
   rw [hv76_0] at ge76_0
   have HL76_0 := Z.k (show Kd.R k37 37 _ _ _ _ (rd_L5 t77 x8_1) from ge76_0)
   clear hv76_0 ge76_0
   clear hcc76 hce76
   have HR76_0 := Z.k hi76_0
   have HC76_0 := Z.k hl76_0
   clear hi76_0 hl76_0
   go_wp2_with (first | ((with_reducible refine gate_callee (f := 73) rfl ?_); refine goesL_ (some 29) rfl rfl Try.func73 (by kernel_rfl) rfl #[.pointer (some ⟨g, 0, none⟩), .int .i64 ji16] rfl (by (try simp only [List.map_toArray, List.map_cons, List.map_nil]); rfl) ?_; (with_reducible refine (spec_l20Rd_pick.calls k1 g s0_0 x78_1 ji16 t81 t96 w0 _ ?q1 ?q2 A17.out).mono ?_); (case q1 => exact HI0.out); (case q2 => exact HB.out); rintro e w22 ⟨rfl, hi, hb, hk⟩; refine ⟨_, rfl, ?_⟩; replace HO_7 := rk HI0 HO_7 hk; replace HO_72 := rk HI0 HO_72 hk; replace HO_71 := rk HI0 HO_71 hk; replace BK68 := Z.kb hk BK68 NB68_0; replace BK69 := Z.kb hk BK69 NB69_0; replace HL76_0 := rk HI0 HL76_0 hk; replace HK := Z.k (KeepBut.trans HK.out hk (.inl rfl)); replace HB := Z.k hb; replace HI0 := Z.k hi; (try clear hb hk hi)) | ((with_reducible refine gate_builtin (b := .append) (xs := #[.tmp 20, .tmp 30]) rfl ?_); at_builtin; refine Kd.R_append (Kd.int .i64) w.heap.size rfl (.tmp 20) (.tmp 30) 23 3 (.int .i64 0) 8 rfl Try.underlying23 info3 rfl (by decide) (by omega) u7 x7_1 t81 [.int .i64 t81] (fun k_ => some k_ ≠ (.slice Ao10 t75.length co10 : Value).ownBlock) (fun _ => False) rfl rfl ?aP (fun _ hk => hk.elim) ?aF ?aO (Below.refl _ _) ?aS ?aL ?_; (case aP => exact rfl); (case aF => exact (fun k_ hk => Kd.fresh' (Kd.R_lt HO_72.out) k_ hk)); (case aO => exact HO_7.out); (case aS => exact (keep_size (w := w) (g := g) (row := none) HK.out)); (case aL => have := LMc18.out; omega); intro v580 w23 ho hb hg hat; rw [← Ny83.out] at ho; replace HO_72 := Z.k (Kd.R_after (ok := (fun _ => True)) (Kd.R_mono HO_72.out (fun _ hk => ⟨trivial, hk⟩)) hg hat); replace HO_71 := Z.k (Kd.R_over' HO_71.out (Kd.R_typed HO_7.out) (by decide) hg); replace BK68 := Z.gb hg HO_7 BK68; replace BK69 := Z.gb hg HO_7 BK69; replace HL76_0 := Z.k (Kd.R_over' HL76_0.out (Kd.R_typed HO_7.out) (by decide) hg); replace HB := Z.k (below_weaken HB.out HL.out hb); replace HI0 := Z.k (IsS92.grown HI0.out hg (IsS92.own_ne HI0.out HO_7.out (by decide))); replace HK := Z.k (KeepBut.trans HK.out (KeepBut.of_grown hg g) (Kd.R_base2 HO_7.out)); have HO98 := Z.k ho; clear HO_7; clear ho hb hg hat))
   go_roundg k1
   case measure => have := HK1.out; omega
   case rel => exact ⟨(y83), (wrap64 (x8_1 + 1)), (t96), (by rfl), H', ⟨by have := HK1.out; omega⟩, ⟨by exact HO98.out⟩, ⟨by exact Kd.R_mono HO_72.out (fun _ hk => hk.2)⟩, ⟨by exact HO_71.out⟩, ⟨by exact BK68.out⟩, ⟨by exact BK69.out⟩, ⟨HI0.out⟩, ⟨HK.out⟩, ⟨HB.out⟩⟩
  revert H; refine Z.bd ?_; rintro ⟨t93, t86⟩ A24 H
  try dsimp only at H
  by_cases c25 : t93 = true
  rotate_left
  ·replace c25 := Bool.eq_false_iff.mpr c25
   subst c25
   rw [if_neg (show ¬ (false = true) by decide)] at H
   simp only [Option.some.injEq, Prod.mk.injEq] at H
   obtain ⟨rfl, rfl, rfl, rfl, rfl⟩ := H
   have hnb61 := NB69_68.out
   have hnc61 := NB68_69.out
   have hnb62 := NB69_0.out
   have hnc62 := NB0_69.out
   have hcz63 := Z.c3 BK69.out
   go_wp2_with (((with_reducible refine gate_callee (f := 89) rfl ?_); refine goesL_ (some 34) rfl rfl Try.func89 (by kernel_rfl) rfl #[.pointer (some ⟨g, 0, none⟩), .int .i64 a1] rfl Z.ar ?_; (with_reducible refine (spec_l20Rd_odd.calls k1 g s0_0 x78_1 a1 false t86 w0 _ ?q1 ?q2 A24.out).mono ?_); (case q1 => exact HI0.out); (case q2 => exact HB.out); rintro e w64 ⟨rfl, hi, hb, hk⟩; refine ⟨_, rfl, ?_⟩; replace HO_7 := rk HI0 HO_7 hk; replace HO_72 := rk HI0 HO_72 hk; replace HO_71 := rk HI0 HO_71 hk; replace BK68 := Z.kb hk BK68 NB68_0; replace BK69 := Z.kb hk BK69 NB69_0; replace HK := Z.k (KeepBut.trans HK.out hk (.inl rfl)); replace HB := Z.k hb; replace HI0 := Z.k hi; (try clear hb hk hi); have hcz65 := Z.c3 BK69.out; have hnb66 := NB68_0.out; have hnc66 := NB0_68.out; have hcz67 := Z.c3 BK68.out))
   refine bodyPost_ret (results_ct rfl _ _ gb68 28 #[.int .i64 t74, .slice Ao10 t75.length co10, .slice Ao11 t77.length co11] (0, 0) _ rfl (by refine blk_put (cs := #[.int .i64 t74, .slice Ao10 t75.length co10, .slice none 0 0]) ?_ 2 _ rfl; refine blk_put (cs := #[.int .i64 t74, .slice none 0 0, .slice none 0 0]) ?_ 1 _ rfl; refine blk_put (cs := #[.int .i64 0, .slice none 0 0, .slice none 0 0]) ?_ 0 _ rfl; exact BK68.out) Try.underlying28 rfl (by kernel_rfl)) rfl ?_
   exact ⟨_, _, _, by rfl, by exact Kd.R_mono (Kd.R_far (p := ⟨gb68, 2, none⟩) (Kd.R_far (p := ⟨gb68, 1, none⟩) (Kd.R_far (p := ⟨gb68, 0, none⟩) (Kd.R_types HO_72.out BK68.out (by decide)) (fun _ hk => hk.2) (.int .i64 t74)) (fun _ hk => hk.2) (.slice Ao10 t75.length co10)) (fun _ hk => hk.2) (.slice Ao11 t77.length co11)) (fun _ hk => hk.1), by exact Kd.R_mono (Kd.R_far (p := ⟨gb68, 2, none⟩) (Kd.R_far (p := ⟨gb68, 1, none⟩) (Kd.R_far (p := ⟨gb68, 0, none⟩) (Kd.R_types HO_71.out BK68.out (by decide)) (fun _ hk => hk.2) (.int .i64 t74)) (fun _ hk => hk.2) (.slice Ao10 t75.length co10)) (fun _ hk => hk.2) (.slice Ao11 t77.length co11)) (fun _ hk => trivial), by exact Kd.R_mono (Kd.R_far (p := ⟨gb68, 2, none⟩) (Kd.R_far (p := ⟨gb68, 1, none⟩) (Kd.R_far (p := ⟨gb68, 0, none⟩) (Kd.R_types HO_7.out BK68.out (by decide)) (fun _ hk => hk.2) (.int .i64 t74)) (fun _ hk => hk.2) (.slice Ao10 t75.length co10)) (fun _ hk => hk.2) (.slice Ao11 t77.length co11)) (fun _ hk => hk.1), by repeat ((with_reducible first | exact HI0.out | refine IsS92.far ?_ NB0_68.out _)), by repeat ((with_reducible first | exact HB.out | refine below_set ?_ GE68.out)), by repeat ((with_reducible first | exact HK.out | refine keep_far ?_ GW68.out _))⟩

  subst c25
  rw [if_pos rfl] at H
  revert H; refine Z.bd ?_; rintro ⟨t79, t94⟩ A26 H
  try dsimp only at H
  by_cases c27 : t79 = 0
  ·rw [if_pos c27] at H
   have c27b0 : (t79 == 0) = true := beq_iff_eq.mpr c27
   have c27b1 : (t79 != 0) = false := bne_eq_false_iff_eq.mpr c27
   clear c27
   obtain ⟨c28, H⟩ := Z.ifp H
   have LMc28 := Z.k c28
   clear c28
   obtain ⟨y87, hy87⟩ : ∃ y_ : List Int, y_ = (x7_1 ++ [0]) := ⟨_, rfl⟩
   replace H : (some (t74, t75, t77, y87, t94)) = some (r1, r2, r3, r4, r5) := by (rw [hy87]; with_reducible exact H)
   have Ny87 := Z.k hy87
   clear hy87
   simp only [Option.some.injEq, Prod.mk.injEq] at H
   obtain ⟨rfl, rfl, rfl, rfl, rfl⟩ := H
   have hnb29 := NB69_68.out
   have hnc29 := NB68_69.out
   have hnb30 := NB69_0.out
   have hnc30 := NB0_69.out
   have hcz31 := Z.c3 BK69.out
   go_wp2_with (first | ((with_reducible refine gate_callee (f := 89) rfl ?_); refine goesL_ (some 34) rfl rfl Try.func89 (by kernel_rfl) rfl #[.pointer (some ⟨g, 0, none⟩), .int .i64 a1] rfl Z.ar ?_; (with_reducible refine (spec_l20Rd_odd.calls k1 g s0_0 x78_1 a1 true t86 w0 _ ?q1 ?q2 A24.out).mono ?_); (case q1 => exact HI0.out); (case q2 => exact HB.out); rintro e w32 ⟨rfl, hi, hb, hk⟩; refine ⟨_, rfl, ?_⟩; replace HO_7 := rk HI0 HO_7 hk; replace HO_72 := rk HI0 HO_72 hk; replace HO_71 := rk HI0 HO_71 hk; replace BK68 := Z.kb hk BK68 NB68_0; replace BK69 := Z.kb hk BK69 NB69_0; replace HK := Z.k (KeepBut.trans HK.out hk (.inl rfl)); replace HB := Z.k hb; replace HI0 := Z.k hi; (try clear hb hk hi)) | ((with_reducible refine gate_callee (f := 73) rfl ?_); refine goesL_ (some 36) rfl rfl Try.func73 (by kernel_rfl) rfl #[.pointer (some ⟨g, 0, none⟩), .int .i64 2] rfl Z.ar ?_; (with_reducible refine (spec_l20Rd_pick.calls k1 g s0_0 t86 2 t79 t94 w0 _ ?q1 ?q2 A26.out).mono ?_); (case q1 => exact HI0.out); (case q2 => exact HB.out); rintro e w33 ⟨rfl, hi, hb, hk⟩; refine ⟨_, rfl, ?_⟩; replace HO_7 := rk HI0 HO_7 hk; replace HO_72 := rk HI0 HO_72 hk; replace HO_71 := rk HI0 HO_71 hk; replace BK68 := Z.kb hk BK68 NB68_0; replace BK69 := Z.kb hk BK69 NB69_0; replace HK := Z.k (KeepBut.trans HK.out hk (.inl rfl)); replace HB := Z.k hb; replace HI0 := Z.k hi; (try clear hb hk hi)) | ((with_reducible refine gate_builtin (b := .append) (xs := #[.tmp 44, .tmp 45]) rfl ?_); at_builtin; refine Kd.R_append (Kd.int .i64) w.heap.size rfl (.tmp 44) (.tmp 45) 23 3 (.int .i64 0) 8 rfl Try.underlying23 info3 rfl (by decide) (by omega) u7 x7_1 0 [.int .i64 0] (fun k_ => some k_ ≠ (.slice Ao10 t75.length co10 : Value).ownBlock) (fun _ => False) rfl rfl ?aP (fun _ hk => hk.elim) ?aF ?aO (Below.refl _ _) ?aS ?aL ?_; (case aP => exact rfl); (case aF => exact (fun k_ hk => Kd.fresh' (Kd.R_lt HO_72.out) k_ hk)); (case aO => exact HO_7.out); (case aS => exact (keep_size (w := w) (g := g) (row := none) HK.out)); (case aL => have := LMc28.out; omega); intro v587 w34 ho hb hg hat; rw [← Ny87.out] at ho; replace HO_72 := Z.k (Kd.R_after (ok := (fun _ => True)) (Kd.R_mono HO_72.out (fun _ hk => ⟨trivial, hk⟩)) hg hat); replace HO_71 := Z.k (Kd.R_over' HO_71.out (Kd.R_typed HO_7.out) (by decide) hg); replace BK68 := Z.gb hg HO_7 BK68; replace BK69 := Z.gb hg HO_7 BK69; replace HB := Z.k (below_weaken HB.out HL.out hb); replace HI0 := Z.k (IsS92.grown HI0.out hg (IsS92.own_ne HI0.out HO_7.out (by decide))); replace HK := Z.k (KeepBut.trans HK.out (KeepBut.of_grown hg g) (Kd.R_base2 HO_7.out)); have HO99 := Z.k ho; clear HO_7; clear ho hb hg hat; have hcz35 := Z.c3 BK69.out; have hnb36 := NB68_0.out; have hnc36 := NB0_68.out; have hcz37 := Z.c3 BK68.out))
   refine bodyPost_ret (results_ct rfl _ _ gb68 28 #[.int .i64 t74, .slice Ao10 t75.length co10, .slice Ao11 t77.length co11] (0, 0) _ rfl (by refine blk_put (cs := #[.int .i64 t74, .slice Ao10 t75.length co10, .slice none 0 0]) ?_ 2 _ rfl; refine blk_put (cs := #[.int .i64 t74, .slice none 0 0, .slice none 0 0]) ?_ 1 _ rfl; refine blk_put (cs := #[.int .i64 0, .slice none 0 0, .slice none 0 0]) ?_ 0 _ rfl; exact BK68.out) Try.underlying28 rfl (by kernel_rfl)) rfl ?_
   exact ⟨_, _, _, by rfl, by exact Kd.R_mono (Kd.R_far (p := ⟨gb68, 2, none⟩) (Kd.R_far (p := ⟨gb68, 1, none⟩) (Kd.R_far (p := ⟨gb68, 0, none⟩) (Kd.R_types HO_72.out BK68.out (by decide)) (fun _ hk => hk.2) (.int .i64 t74)) (fun _ hk => hk.2) (.slice Ao10 t75.length co10)) (fun _ hk => hk.2) (.slice Ao11 t77.length co11)) (fun _ hk => hk.1.2), by exact Kd.R_mono (Kd.R_far (p := ⟨gb68, 2, none⟩) (Kd.R_far (p := ⟨gb68, 1, none⟩) (Kd.R_far (p := ⟨gb68, 0, none⟩) (Kd.R_types HO_71.out BK68.out (by decide)) (fun _ hk => hk.2) (.int .i64 t74)) (fun _ hk => hk.2) (.slice Ao10 t75.length co10)) (fun _ hk => hk.2) (.slice Ao11 t77.length co11)) (fun _ hk => trivial), by exact Kd.R_mono (Kd.R_far (p := ⟨gb68, 2, none⟩) (Kd.R_far (p := ⟨gb68, 1, none⟩) (Kd.R_far (p := ⟨gb68, 0, none⟩) (Kd.R_types HO99.out BK68.out (by decide)) (fun _ hk => hk.2) (.int .i64 t74)) (fun _ hk => hk.2) (.slice Ao10 t75.length co10)) (fun _ hk => hk.2) (.slice Ao11 t77.length co11)) (fun _ hk => hk.1), by repeat ((with_reducible first | exact HI0.out | refine IsS92.far ?_ NB0_68.out _)), by repeat ((with_reducible first | exact HB.out | refine below_set ?_ GE68.out)), by repeat ((with_reducible first | exact HK.out | refine keep_far ?_ GW68.out _))⟩
  rw [if_neg c27] at H
  have c27b0 : (t79 == 0) = false := beq_eq_false_iff_ne.mpr c27
  have c27b1 : (t79 != 0) = true := bne_iff_ne.mpr c27
  by_cases c38 : (x7_1.length : Int) > 0
  ·rw [if_pos c38] at H
   have c38b0 : decide (0 < (x7_1.length : Int)) = true := decide_eq_true c38
   have c38b1 : decide (0 < x7_1.length) = true := decide_eq_true (by omega)
   clear c38
   obtain ⟨c39, H⟩ := Z.ifp H
   have c39b0 : decide (0 < (x7_1.length : Int)) = true := decide_eq_true c39
   have c39b1 : decide (0 < x7_1.length) = true := decide_eq_true (by omega)
   clear c39
   obtain ⟨y84, hy84⟩ : ∃ y_ : List Int, y_ = (x7_1.set (0 : Int).toNat 3) := ⟨_, rfl⟩
   replace H : (some (t74, t75, t77, y84, t94)) = some (r1, r2, r3, r4, r5) := by (rw [hy84]; with_reducible exact H)
   have Ny84 := Z.k hy84
   clear hy84
   simp only [Option.some.injEq, Prod.mk.injEq] at H
   obtain ⟨rfl, rfl, rfl, rfl, rfl⟩ := H
   have hnb41 := NB69_68.out
   have hnc41 := NB68_69.out
   have hnb42 := NB69_0.out
   have hnc42 := NB0_69.out
   have hcz43 := Z.c3 BK69.out
   go_wp2_with (first | ((with_reducible refine gate_callee (f := 89) rfl ?_); refine goesL_ (some 34) rfl rfl Try.func89 (by kernel_rfl) rfl #[.pointer (some ⟨g, 0, none⟩), .int .i64 a1] rfl Z.ar ?_; (with_reducible refine (spec_l20Rd_odd.calls k1 g s0_0 x78_1 a1 true t86 w0 _ ?q1 ?q2 A24.out).mono ?_); (case q1 => exact HI0.out); (case q2 => exact HB.out); rintro e w44 ⟨rfl, hi, hb, hk⟩; refine ⟨_, rfl, ?_⟩; replace HO_7 := rk HI0 HO_7 hk; replace HO_72 := rk HI0 HO_72 hk; replace HO_71 := rk HI0 HO_71 hk; replace BK68 := Z.kb hk BK68 NB68_0; replace BK69 := Z.kb hk BK69 NB69_0; replace HK := Z.k (KeepBut.trans HK.out hk (.inl rfl)); replace HB := Z.k hb; replace HI0 := Z.k hi; (try clear hb hk hi)) | ((with_reducible refine gate_callee (f := 73) rfl ?_); refine goesL_ (some 36) rfl rfl Try.func73 (by kernel_rfl) rfl #[.pointer (some ⟨g, 0, none⟩), .int .i64 2] rfl Z.ar ?_; (with_reducible refine (spec_l20Rd_pick.calls k1 g s0_0 t86 2 t79 t94 w0 _ ?q1 ?q2 A26.out).mono ?_); (case q1 => exact HI0.out); (case q2 => exact HB.out); rintro e w45 ⟨rfl, hi, hb, hk⟩; refine ⟨_, rfl, ?_⟩; replace HO_7 := rk HI0 HO_7 hk; replace HO_72 := rk HI0 HO_72 hk; replace HO_71 := rk HI0 HO_71 hk; replace BK68 := Z.kb hk BK68 NB68_0; replace BK69 := Z.kb hk BK69 NB69_0; replace HK := Z.k (KeepBut.trans HK.out hk (.inl rfl)); replace HB := Z.k hb; replace HI0 := Z.k hi; (try clear hb hk hi); obtain ⟨Ao46, co46, eo46⟩ := Kd.R_slice HO_7.out; subst eo46; have p40 : 0 ≤ (0 : Int) := (by omega); have q40 : (0 : Int) < ((x7_1.length : Int) : Int) := Z.od; have qi40 : (0 < x7_1.length) = True := eq_true (by omega); obtain ⟨go40, co40, eo40, gb40, gl40, cl40, HG40⟩ := Kd.R_form HO_7.out (by omega); (cases eo40); have GB40 := Z.k gb40; have GG40 := Z.k HG40; clear gb40 gl40 HG40; obtain ⟨hx40_0, hf40_0⟩ := Kd.R_celln 0 HO_7.out (0 : Int) p40 q40; (try rw [show ((0 : Int)).toNat = 0 from rfl] at hx40_0); (try rw [show ((0 : Int)).toNat = 0 from rfl] at hf40_0); replace p40 := eq_true p40; replace q40 := eq_true q40; obtain ⟨hy47_, hz47_⟩ := Kd.R_celln 0 HO_7.out (0 : Int) (by omega) (Z.od); (try rw [show ((0 : Int)).toNat = 0 from rfl] at hy47_); (try rw [show ((0 : Int)).toNat = 0 from rfl] at hz47_); have HP47 := Kd.R_putg HO_7.out (0 : Int) 3) | ((with_reducible refine gate_store (t := 3) (p := 41) rfl ?_); refine store_event (t := 3) (p := 41) (v := ?vo_w48) (w1 := (w45.setCell ⟨go40, (0 : Int).toNat, none⟩ (.int .i64 3))) ?hg ?ho ?hn ?hr ?_; (case ho => rfl); (case hg => rfl); (case hn => rfl); (case hr => (go_simp; done)); intro w48 hw; have hg : w45.grownBy w48 (some go40) := (by rw [hw]; exact HP47.2); have hp_ : Kd.R (Kd.int .i64) 3 w48 w.heap.size (fun k_ => some k_ ≠ (.slice Ao10 t75.length co10 : Value).ownBlock) (.slice (some ⟨go40, 0, none⟩) x7_1.length co46) y84 := (by rw [hw, Ny84.out]; exact HP47.1); clear HP47; replace HO_72 := Z.k (Kd.R_after (v := (.slice (some ⟨go40, 0, none⟩) x7_1.length co46)) (v1 := (.slice (some ⟨go40, 0, none⟩) x7_1.length co46)) (ok := (fun _ => True)) (Kd.R_mono HO_72.out (fun _ hk => ⟨trivial, hk⟩)) hg (.inl rfl)); replace HO_71 := Z.k (Kd.R_over' (v := (.slice (some ⟨go40, 0, none⟩) x7_1.length co46)) HO_71.out (Kd.R_typed HO_7.out) (by decide) hg); replace BK68 := Z.gb hg HO_7 BK68; replace BK69 := Z.gb hg HO_7 BK69; replace HI0 := Z.k (IsS92.grown HI0.out hg (IsS92.own_ne HI0.out HO_7.out (by decide))); replace HB := Z.k ((by rw [hw]; exact below_set (HB.out) (Nat.le_trans HL.out GB40.out) : Below w0.heap.size w0 w48)); replace HK := Z.k (KeepBut.trans HK.out (KeepBut.of_grown hg g) (Kd.R_base2 HO_7.out)); replace HO_7 := Z.k hp_; clear hg hw hp_; have hcz49 := Z.c3 BK69.out; have hnb50 := NB68_0.out; have hnc50 := NB0_68.out; have hcz51 := Z.c3 BK68.out))
   refine bodyPost_ret (results_ct rfl _ _ gb68 28 #[.int .i64 t74, .slice Ao10 t75.length co10, .slice Ao11 t77.length co11] (0, 0) _ rfl (by refine blk_put (cs := #[.int .i64 t74, .slice Ao10 t75.length co10, .slice none 0 0]) ?_ 2 _ rfl; refine blk_put (cs := #[.int .i64 t74, .slice none 0 0, .slice none 0 0]) ?_ 1 _ rfl; refine blk_put (cs := #[.int .i64 0, .slice none 0 0, .slice none 0 0]) ?_ 0 _ rfl; exact BK68.out) Try.underlying28 rfl (by kernel_rfl)) rfl ?_
   exact ⟨_, _, _, by rfl, by exact Kd.R_mono (Kd.R_far (p := ⟨gb68, 2, none⟩) (Kd.R_far (p := ⟨gb68, 1, none⟩) (Kd.R_far (p := ⟨gb68, 0, none⟩) (Kd.R_types HO_72.out BK68.out (by decide)) (fun _ hk => hk.2) (.int .i64 t74)) (fun _ hk => hk.2) (.slice Ao10 t75.length co10)) (fun _ hk => hk.2) (.slice Ao11 t77.length co11)) (fun _ hk => hk.1.2), by exact Kd.R_mono (Kd.R_far (p := ⟨gb68, 2, none⟩) (Kd.R_far (p := ⟨gb68, 1, none⟩) (Kd.R_far (p := ⟨gb68, 0, none⟩) (Kd.R_types HO_71.out BK68.out (by decide)) (fun _ hk => hk.2) (.int .i64 t74)) (fun _ hk => hk.2) (.slice Ao10 t75.length co10)) (fun _ hk => hk.2) (.slice Ao11 t77.length co11)) (fun _ hk => trivial), by exact Kd.R_mono (Kd.R_far (p := ⟨gb68, 2, none⟩) (Kd.R_far (p := ⟨gb68, 1, none⟩) (Kd.R_far (p := ⟨gb68, 0, none⟩) (Kd.R_types HO_7.out BK68.out (by decide)) (fun _ hk => hk.2) (.int .i64 t74)) (fun _ hk => hk.2) (.slice Ao10 t75.length co10)) (fun _ hk => hk.2) (.slice Ao11 t77.length co11)) (fun _ hk => hk.1), by repeat ((with_reducible first | exact HI0.out | refine IsS92.far ?_ NB0_68.out _)), by repeat ((with_reducible first | exact HB.out | refine below_set ?_ GE68.out)), by repeat ((with_reducible first | exact HK.out | refine keep_far ?_ GW68.out _))⟩
  rw [if_neg c38] at H
  have c38b0 : decide (0 < (x7_1.length : Int)) = false := decide_eq_false c38
  have c38b1 : decide (0 < x7_1.length) = false := decide_eq_false (by omega)
  clear c38
  simp only [Option.some.injEq, Prod.mk.injEq] at H
  obtain ⟨rfl, rfl, rfl, rfl, rfl⟩ := H
  have hnb52 := NB69_68.out
  have hnc52 := NB68_69.out
  have hnb53 := NB69_0.out
  have hnc53 := NB0_69.out
  have hcz54 := Z.c3 BK69.out
  go_wp2_with (first | ((with_reducible refine gate_callee (f := 89) rfl ?_); refine goesL_ (some 34) rfl rfl Try.func89 (by kernel_rfl) rfl #[.pointer (some ⟨g, 0, none⟩), .int .i64 a1] rfl Z.ar ?_; (with_reducible refine (spec_l20Rd_odd.calls k1 g s0_0 x78_1 a1 true t86 w0 _ ?q1 ?q2 A24.out).mono ?_); (case q1 => exact HI0.out); (case q2 => exact HB.out); rintro e w55 ⟨rfl, hi, hb, hk⟩; refine ⟨_, rfl, ?_⟩; replace HO_7 := rk HI0 HO_7 hk; replace HO_72 := rk HI0 HO_72 hk; replace HO_71 := rk HI0 HO_71 hk; replace BK68 := Z.kb hk BK68 NB68_0; replace BK69 := Z.kb hk BK69 NB69_0; replace HK := Z.k (KeepBut.trans HK.out hk (.inl rfl)); replace HB := Z.k hb; replace HI0 := Z.k hi; (try clear hb hk hi)) | ((with_reducible refine gate_callee (f := 73) rfl ?_); refine goesL_ (some 36) rfl rfl Try.func73 (by kernel_rfl) rfl #[.pointer (some ⟨g, 0, none⟩), .int .i64 2] rfl Z.ar ?_; (with_reducible refine (spec_l20Rd_pick.calls k1 g s0_0 t86 2 t79 t94 w0 _ ?q1 ?q2 A26.out).mono ?_); (case q1 => exact HI0.out); (case q2 => exact HB.out); rintro e w56 ⟨rfl, hi, hb, hk⟩; refine ⟨_, rfl, ?_⟩; replace HO_7 := rk HI0 HO_7 hk; replace HO_72 := rk HI0 HO_72 hk; replace HO_71 := rk HI0 HO_71 hk; replace BK68 := Z.kb hk BK68 NB68_0; replace BK69 := Z.kb hk BK69 NB69_0; replace HK := Z.k (KeepBut.trans HK.out hk (.inl rfl)); replace HB := Z.k hb; replace HI0 := Z.k hi; (try clear hb hk hi); obtain ⟨Ao57, co57, eo57⟩ := Kd.R_slice HO_7.out; subst eo57; have hcz58 := Z.c3 BK69.out; have hnb59 := NB68_0.out; have hnc59 := NB0_68.out; have hcz60 := Z.c3 BK68.out))
  refine bodyPost_ret (results_ct rfl _ _ gb68 28 #[.int .i64 t74, .slice Ao10 t75.length co10, .slice Ao11 t77.length co11] (0, 0) _ rfl (by refine blk_put (cs := #[.int .i64 t74, .slice Ao10 t75.length co10, .slice none 0 0]) ?_ 2 _ rfl; refine blk_put (cs := #[.int .i64 t74, .slice none 0 0, .slice none 0 0]) ?_ 1 _ rfl; refine blk_put (cs := #[.int .i64 0, .slice none 0 0, .slice none 0 0]) ?_ 0 _ rfl; exact BK68.out) Try.underlying28 rfl (by kernel_rfl)) rfl ?_
  exact ⟨_, _, _, by rfl, by exact Kd.R_mono (Kd.R_far (p := ⟨gb68, 2, none⟩) (Kd.R_far (p := ⟨gb68, 1, none⟩) (Kd.R_far (p := ⟨gb68, 0, none⟩) (Kd.R_types HO_72.out BK68.out (by decide)) (fun _ hk => hk.2) (.int .i64 t74)) (fun _ hk => hk.2) (.slice Ao10 t75.length co10)) (fun _ hk => hk.2) (.slice Ao11 t77.length co11)) (fun _ hk => hk.1), by exact Kd.R_mono (Kd.R_far (p := ⟨gb68, 2, none⟩) (Kd.R_far (p := ⟨gb68, 1, none⟩) (Kd.R_far (p := ⟨gb68, 0, none⟩) (Kd.R_types HO_71.out BK68.out (by decide)) (fun _ hk => hk.2) (.int .i64 t74)) (fun _ hk => hk.2) (.slice Ao10 t75.length co10)) (fun _ hk => hk.2) (.slice Ao11 t77.length co11)) (fun _ hk => trivial), by exact Kd.R_mono (Kd.R_far (p := ⟨gb68, 2, none⟩) (Kd.R_far (p := ⟨gb68, 1, none⟩) (Kd.R_far (p := ⟨gb68, 0, none⟩) (Kd.R_types HO_7.out BK68.out (by decide)) (fun _ hk => hk.2) (.int .i64 t74)) (fun _ hk => hk.2) (.slice Ao10 t75.length co10)) (fun _ hk => hk.2) (.slice Ao11 t77.length co11)) (fun _ hk => hk.1), by repeat ((with_reducible first | exact HI0.out | refine IsS92.far ?_ NB0_68.out _)), by repeat ((with_reducible first | exact HB.out | refine below_set ?_ GE68.out)), by repeat ((with_reducible first | exact HK.out | refine keep_far ?_ GW68.out _))⟩
end Go.Proofs.Ytkogboechfieeaa.PAll

/- Walks of functions that laws of this seat reach, in the form of the print. -/
import Derived.Test.YtojoblllgddckaaCAll0
import Derived.Test.YtojoblllgddckaaCAll1
import Derived.Test.YtojoblllgddckaaCAll38
import Derived.Test.YtojoblllgddckaaCAll47
import Derived.Test.YtojoblllgddckaaCAll49
import Derived.Test.YtojoblllgddckaaZ
-- PRINTED
namespace Go.Proofs.Ytojoblllgddckaa.PAll
open Go.RowKit Go.Proofs.YtojoblllgddckaaW.PrintWords Go.Proofs.YtojoblllgddckaaW.PrintLast Go.Proofs.YtojoblllgddckaaW.PrintMore
attribute [local go_sem] max2_int min2_int max_two min_two max_three min_three max_four min_four
set_option linter.unusedVariables false
set_option linter.unusedSimpArgs false

/-! ### spec_l20Acted: function 78 -/
def spec_l20Acted.l0 : Nat → List Int → List (S48) → Int → List Int → Int → Int → List Int → List (List (S91)) → Option (Int × List Int × (List (List (S91))) × List Int × (List (S48)) × Int)
 | 0, _, _, _, _, _, _, _, _ => none
 | k + 1, x6, x7, x8, x1000, x1001, x776000, x776001, x776002 => if x8 > 0 then ((spec_l20Act.f k x1000 x1001 x776000 x776001 x776002).bind fun bt783 => (if x7.length < 5864062014805 then (spec_l20Acted.l0 k x6 (x7 ++ [(⟨bt783.1, bt783.2.1, bt783.2.2.1⟩ : S48)]) (wrap64 (x8 - 1)) x1000 bt783.2.2.2 x776000 x776001 x776002) else (none))) else (some (x776000, x776001, x776002, x6, x7, x1001))
def spec_l20Acted.f (k : Nat) (s0_0 : List Int) (s0_1 : Int) : Option (Int × List Int × (List (List (S91))) × List Int × (List (S48)) × Int) := (spec_l20State.f k s0_0 s0_1 14).bind fun bt764 => ((spec_l20Rd_pick.f k s0_0 bt764.2.2.2.2 8).bind fun bt779 => ((spec_l20Rd_pick.f k s0_0 bt779.2 60).bind fun bt781 => (spec_l20Acted.l0 k bt764.2.2.2.1 (([] : List (S48))) (wrap64 (bt779.1 + (wrap64 ((wrap64 (Int.tdiv bt781.1 59)) * 6)))) s0_0 bt781.2 bt764.1 bt764.2.1 bt764.2.2.1)))
set_option maxHeartbeats 8000000 in
set_option maxRecDepth 100000 in
theorem spec_l20Acted.calls (k : Nat) (g : Nat) (s0_0 : List Int) (s0_1 : Int) (r1 : Int) (r2 : List Int) (r3 : List (List (S91))) (r4 : List Int) (r5 : List (S48)) (r6 : Int) (w0 w : World) (hI : IsS106 w0 w g s0_0 s0_1) (hB : Below w0.heap.size w0 w) (h : spec_l20Acted.f k s0_0 s0_1 = some (r1, r2, r3, r4, r5, r6)) :
  Calls Try.prog 78 #[.pointer (some ⟨g, 0, none⟩)] w fun e w' => ∃ v1_ v2_ v3_ v4_ : Value, e = .returned (.tuple #[.agg #[.int .i64 r1, v1_, v2_], v3_, v4_]) ∧ Kd.R (Kd.int .i64) 3 w' w.heap.size (fun k_ => some k_ ≠ (v3_ : Value).ownBlock) v1_ r2 ∧ Kd.R (Kd.slice 91 k91) 56 w' w.heap.size (fun _ => True) v2_ r3 ∧ Kd.R (Kd.int .i64) 3 w' w.heap.size (fun k_ => some k_ ≠ (v1_ : Value).ownBlock) v3_ r4 ∧ Kd.R k48 48 w' w.heap.size (fun _ => True) v4_ r5 ∧ IsS106 w0 w' g s0_0 r6 ∧ Below w0.heap.size w0 w' ∧ KeepBut w w' g none := by
 have hu46 := Try.underlying46
 have HI0 := Z.k hI
 have HK := Z.k (KeepBut.refl w g none)
 have HL := Z.k hB.size
 clear hI
 have HW0 := Z.k hB.size
 have HB := Z.k hB
 clear hB
 have H := h
 clear h
 unfold spec_l20Acted.f at H
 replace H := Option.bind_eq_some_iff.mp H
 obtain ⟨⟨t764, t765, t768, t771, t774⟩, A20, H⟩ := H
 try dsimp only at H
 have A2 := Z.k A20
 clear A20
 obtain ⟨y776, hy776⟩ : ∃ y_ : List (S48), y_ = (([] : List (S48))) := ⟨_, rfl⟩
 replace H : ((spec_l20Rd_pick.f k s0_0 t774 8).bind fun bt779 => ((spec_l20Rd_pick.f k s0_0 bt779.2 60).bind fun bt781 => (spec_l20Acted.l0 k t771 y776 (wrap64 (bt779.1 + (wrap64 ((wrap64 (Int.tdiv bt781.1 59)) * 6)))) s0_0 bt781.2 t764 t765 t768))) = some (r1, r2, r3, r4, r5, r6) := by (rw [hy776]; with_reducible exact H)
 have Ny776 := Z.k hy776
 clear hy776
 replace H := Option.bind_eq_some_iff.mp H
 obtain ⟨⟨t779, t780⟩, A30, H⟩ := H
 try dsimp only at H
 have A3 := Z.k A30
 clear A30
 replace H := Option.bind_eq_some_iff.mp H
 obtain ⟨⟨t781, t782⟩, A40, H⟩ := H
 try dsimp only at H
 have A4 := Z.k A40
 clear A40
 have H' := Z.k H
 clear H
 go_enter Try.func78, Try.ntmps78
 go_wp2_with (first | ((with_reducible refine gate_dst (N := 2) rfl ?_); refine box_event ?hg (N := 2) ?hd (cs := #[.int .i64 0, .slice none 0 0, .slice none 0 0]) (t := 46) ?hr ?_; (case hd | hg => rfl); (case hr => (go_simp; done)); intro gb763 hg w5 hbox hb; replace HB := Z.k (below_step HB.out hb); have BK763 := Z.k hbox; have GW763 := Z.k ((by rw [hg]; exact (keep_size (w := w) (g := g) (row := none) HK.out) : w.heap.size ≤ gb763)); have GE763 := Z.k ((Nat.le_trans HW0.out (by rw [hg]; exact (keep_size (w := w) (g := g) (row := none) HK.out) : w.heap.size ≤ gb763) : w0.heap.size ≤ gb763)); replace HK := Z.k (KeepBut.trans HK.out (KeepBut.of_below hb g none) (.inl rfl)); have NB0_763 := Z.k ((by rw [hg]; exact Nat.ne_of_lt (IsS106.lt HI0.out) : g ≠ gb763)); have NB763_0 := Z.k ((by rw [hg]; exact Nat.ne_of_gt (IsS106.lt HI0.out) : gb763 ≠ g)); replace HI0 := Z.k (IsS106.below HI0.out hb); clear hb hbox hg) | ((with_reducible refine gate_callee (f := 71) rfl ?_); refine goesL_ (some 11) rfl rfl Try.func71 (by kernel_rfl) rfl #[.pointer (some ⟨g, 0, none⟩), .int .i64 14] rfl Z.ar ?_; (with_reducible refine (spec_l20State.calls k g s0_0 s0_1 14 t764 t765 t768 t771 t774 w0 _ ?q1 ?q2 A2.out).mono ?_); (case q1 => exact HI0.out); (case q2 => exact HB.out); rintro e w6 ⟨v766, v769, v772, rfl, ho0, ho1, ho2, hi, hb, hk⟩; refine ⟨_, rfl, ?_⟩; replace BK763 := Z.k (KeepBut.blk hk (g' := gb763) (o := .cells #[.int .i64 0, .slice none 0 0, .slice none 0 0] 46 (0, 0)) (Z.bk BK763.out) NB763_0.out (by simp)); have HO767 := Z.k (Kd.R_lower ho0 (keep_size (w := w) (g := g) (row := none) HK.out)); have HO770 := Z.k (Kd.R_lower ho1 (keep_size (w := w) (g := g) (row := none) HK.out)); have HO773 := Z.k (Kd.R_lower ho2 (keep_size (w := w) (g := g) (row := none) HK.out)); replace HK := Z.k (KeepBut.trans HK.out hk (.inl rfl)); replace HB := Z.k hb; replace HI0 := Z.k hi; (try clear hb); (try clear hk); (try clear hi); (try clear ho0); (try clear ho1); (try clear ho2)) | ((with_reducible refine gate_dst (N := 5) rfl ?_); refine box_event ?hg (N := 5) ?hd (cs := #[.int .i64 0, .slice none 0 0, .slice none 0 0]) (t := 46) ?hr ?_; (case hd | hg => rfl); (case hr => (go_simp; done)); intro gb775 hg w7 hbox hb; replace HO767 := Z.k (Kd.R_below HO767.out hb); replace HO770 := Z.k (Kd.R_below HO770.out hb); replace HO773 := Z.k (Kd.R_below HO773.out hb); replace HB := Z.k (below_step HB.out hb); have BK775 := Z.k hbox; have GW775 := Z.k ((by rw [hg]; exact (keep_size (w := w) (g := g) (row := none) HK.out) : w.heap.size ≤ gb775)); have GE775 := Z.k ((Nat.le_trans HW0.out (by rw [hg]; exact (keep_size (w := w) (g := g) (row := none) HK.out) : w.heap.size ≤ gb775) : w0.heap.size ≤ gb775)); replace HK := Z.k (KeepBut.trans HK.out (KeepBut.of_below hb g none) (.inl rfl)); have NB763_775 := Z.nl hg BK763; have NB775_763 := Z.ng hg BK763; replace BK763 := Z.bb BK763 hb; have NB0_775 := Z.k ((by rw [hg]; exact Nat.ne_of_lt (IsS106.lt HI0.out) : g ≠ gb775)); have NB775_0 := Z.k ((by rw [hg]; exact Nat.ne_of_gt (IsS106.lt HI0.out) : gb775 ≠ g)); replace HI0 := Z.k (IsS106.below HI0.out hb); clear hb hbox hg; have hnb8 := NB775_763.out; have hnc8 := NB763_775.out; have hnb9 := NB775_0.out; have hnc9 := NB0_775.out; have hcz10 := Z.c3 BK775.out; obtain ⟨Ao11, co11, eo11⟩ := Kd.R_slice HO767.out; subst eo11; obtain ⟨Ao12, co12, eo12⟩ := Kd.R_slice HO770.out; subst eo12) | ((with_reducible refine gate_dst (N := 14) rfl ?_); refine Kd.R_lit k48 _ 48 ?hg (N := 14) ?hd (xs := ([] : List (S48))) (inner := []) (ok := fun _ => True) (okp := fun _ => True) ?hr ?hp (fun _ hk => hk) trivial (Below.refl _ _) (Nat.le_refl _) (by simp) ?_; (case hd | hg => rfl); (case hr => (go_simp; done)); (case hp => exact (Reps.none _ _)); intro v777 w13 ho14 hb hg_ hnew_; clear hg_ hnew_; (rw [← Ny776.out] at ho14); replace HO767 := Z.k (Kd.R_below (Kd.R_mono (Kd.R_far (p := ⟨gb775, 2, none⟩) (Kd.R_far (p := ⟨gb775, 1, none⟩) (Kd.R_far (p := ⟨gb775, 0, none⟩) (Kd.R_types HO767.out BK775.out (by decide)) (fun _ hk => hk.2) (.int .i64 t764)) (fun _ hk => hk.2) (.slice Ao11 t765.length co11)) (fun _ hk => hk.2) (.slice Ao12 t768.length co12)) (fun _ h_ => h_.1)) hb); replace HO770 := Z.k (Kd.R_below (Kd.R_mono (Kd.R_far (p := ⟨gb775, 2, none⟩) (Kd.R_far (p := ⟨gb775, 1, none⟩) (Kd.R_far (p := ⟨gb775, 0, none⟩) (Kd.R_types HO770.out BK775.out (by decide)) (fun _ hk => hk.2) (.int .i64 t764)) (fun _ hk => hk.2) (.slice Ao11 t765.length co11)) (fun _ hk => hk.2) (.slice Ao12 t768.length co12)) (fun _ h_ => h_.1)) hb); replace HO773 := Z.k (Kd.R_below (Kd.R_mono (Kd.R_far (p := ⟨gb775, 2, none⟩) (Kd.R_far (p := ⟨gb775, 1, none⟩) (Kd.R_far (p := ⟨gb775, 0, none⟩) (Kd.R_types HO773.out BK775.out (by decide)) (fun _ hk => hk.2) (.int .i64 t764)) (fun _ hk => hk.2) (.slice Ao11 t765.length co11)) (fun _ hk => hk.2) (.slice Ao12 t768.length co12)) (fun _ h_ => h_.1)) hb); have HO778 := Z.k (Kd.R_lower ho14 (keep_size (w := w) (g := g) (row := none) (by repeat ((with_reducible first | exact HK.out | refine keep_far ?_ GW775.out _))))); replace BK763 := Z.k (blk_below (g := gb763) (o := .cells #[.int .i64 0, .slice none 0 0, .slice none 0 0] 46 (0, 0)) (by refine blk_far ?_ NB763_775.out _; refine blk_far ?_ NB763_775.out _; refine blk_far ?_ NB763_775.out _; exact BK763.out) hb); replace BK775 := Z.k (blk_below (g := gb775) (o := .cells #[.int .i64 t764, .slice Ao11 t765.length co11, .slice Ao12 t768.length co12] 46 (0, 0)) (by refine blk_put (cs := #[.int .i64 t764, .slice Ao11 t765.length co11, .slice none 0 0]) ?_ 2 _ rfl; refine blk_put (cs := #[.int .i64 t764, .slice none 0 0, .slice none 0 0]) ?_ 1 _ rfl; refine blk_put (cs := #[.int .i64 0, .slice none 0 0, .slice none 0 0]) ?_ 0 _ rfl; exact BK775.out) hb); replace HK := Z.k (KeepBut.trans (by repeat ((with_reducible first | exact HK.out | refine keep_far ?_ GW775.out _))) (KeepBut.of_below hb g none) (.inl rfl)); replace HB := Z.k (below_step (by repeat ((with_reducible first | exact HB.out | refine below_set ?_ GE775.out))) hb); replace HI0 := Z.k (IsS106.below (show IsS106 w0 (((w7.setCell ⟨gb775, 0, none⟩ (.int .i64 t764)).setCell ⟨gb775, 1, none⟩ (.slice Ao11 t765.length co11)).setCell ⟨gb775, 2, none⟩ (.slice Ao12 t768.length co12)) g s0_0 t774 from by repeat ((with_reducible first | exact HI0.out | refine IsS106.far ?_ NB0_775.out _))) hb); clear hb ho14) | ((with_reducible refine gate_callee (f := 60) rfl ?_); refine goesL_ (some 16) rfl rfl Try.func60 (by kernel_rfl) rfl #[.pointer (some ⟨g, 0, none⟩), .int .i64 8] rfl Z.ar ?_; (with_reducible refine (spec_l20Rd_pick.calls k g s0_0 t774 8 t779 t780 w0 _ ?q1 ?q2 A3.out).mono ?_); (case q1 => exact HI0.out); (case q2 => exact HB.out); rintro e w15 ⟨rfl, hi, hb, hk⟩; refine ⟨_, rfl, ?_⟩; replace BK763 := Z.k (KeepBut.blk hk (g' := gb763) (o := .cells #[.int .i64 0, .slice none 0 0, .slice none 0 0] 46 (0, 0)) (Z.bk BK763.out) NB763_0.out (by simp)); replace HO767 := Z.k (Kd.R_mono (Kd.R_keep (IsS106.apart HI0.out HO767.out (by decide)) hk (fun _ h => h.2)) (fun _ h => h.1)); replace HO770 := Z.k (Kd.R_mono (Kd.R_keep (IsS106.apart HI0.out HO770.out (by decide)) hk (fun _ h => h.2)) (fun _ h => h.1)); replace HO773 := Z.k (Kd.R_mono (Kd.R_keep (IsS106.apart HI0.out HO773.out (by decide)) hk (fun _ h => h.2)) (fun _ h => h.1)); replace BK775 := Z.k (KeepBut.blk hk (g' := gb775) (o := .cells #[.int .i64 t764, .slice Ao11 t765.length co11, .slice Ao12 t768.length co12] 46 (0, 0)) (Z.bk BK775.out) NB775_0.out (by simp)); replace HO778 := Z.k (Kd.R_mono (Kd.R_keep (IsS106.apart HI0.out HO778.out (by decide)) hk (fun _ h => h.2)) (fun _ h => h.1)); replace HK := Z.k (KeepBut.trans HK.out hk (.inl rfl)); replace HB := Z.k hb; replace HI0 := Z.k hi; (try clear hb); (try clear hk); (try clear hi)) | ((with_reducible refine gate_callee (f := 60) rfl ?_); refine goesL_ (some 18) rfl rfl Try.func60 (by kernel_rfl) rfl #[.pointer (some ⟨g, 0, none⟩), .int .i64 60] rfl Z.ar ?_; (with_reducible refine (spec_l20Rd_pick.calls k g s0_0 t780 60 t781 t782 w0 _ ?q1 ?q2 A4.out).mono ?_); (case q1 => exact HI0.out); (case q2 => exact HB.out); rintro e w16 ⟨rfl, hi, hb, hk⟩; refine ⟨_, rfl, ?_⟩; replace BK763 := Z.k (KeepBut.blk hk (g' := gb763) (o := .cells #[.int .i64 0, .slice none 0 0, .slice none 0 0] 46 (0, 0)) (Z.bk BK763.out) NB763_0.out (by simp)); replace HO767 := Z.k (Kd.R_mono (Kd.R_keep (IsS106.apart HI0.out HO767.out (by decide)) hk (fun _ h => h.2)) (fun _ h => h.1)); replace HO770 := Z.k (Kd.R_mono (Kd.R_keep (IsS106.apart HI0.out HO770.out (by decide)) hk (fun _ h => h.2)) (fun _ h => h.1)); replace HO773 := Z.k (Kd.R_mono (Kd.R_keep (IsS106.apart HI0.out HO773.out (by decide)) hk (fun _ h => h.2)) (fun _ h => h.1)); replace BK775 := Z.k (KeepBut.blk hk (g' := gb775) (o := .cells #[.int .i64 t764, .slice Ao11 t765.length co11, .slice Ao12 t768.length co12] 46 (0, 0)) (Z.bk BK775.out) NB775_0.out (by simp)); replace HO778 := Z.k (Kd.R_mono (Kd.R_keep (IsS106.apart HI0.out HO778.out (by decide)) hk (fun _ h => h.2)) (fun _ h => h.1)); replace HK := Z.k (KeepBut.trans HK.out hk (.inl rfl)); replace HB := Z.k hb; replace HI0 := Z.k hi; (try clear hb); (try clear hk); (try clear hi)))
 go_loopg [7, 8] k (fun kq v7 v8 w' => ∃ (x7_1 : List (S48)) (x8_1 : Int) (x1001_1 : Int), v8 = .int .i64 x8_1 ∧ Aside0 (spec_l20Acted.l0 kq t771 x7_1 x8_1 s0_0 x1001_1 t764 t765 t768 = some (r1, r2, r3, r4, r5, r6)) ∧ Aside0 (kq ≤ k) ∧ Aside0 (Kd.R (Kd.int .i64) 3 w' w.heap.size (fun k_ => some k_ ≠ ((.slice Ao11 t765.length co11) : Value).ownBlock) v772 t771) ∧ Aside0 (Kd.R k48 48 w' w.heap.size (fun _ => True) v7 x7_1) ∧ Aside0 (Kd.R (Kd.int .i64) 3 w' w.heap.size (fun k_ => some k_ ≠ (v772 : Value).ownBlock) (.slice Ao11 t765.length co11) t765) ∧ Aside0 (Kd.R (Kd.slice 91 k91) 56 w' w.heap.size (fun _ => True) (.slice Ao12 t768.length co12) t768) ∧ Aside0 (w'.heap[gb763]? = some (.cells #[.int .i64 0, (.slice none 0 0), (.slice none 0 0)] 46 (0, 0))) ∧ Aside0 (w'.heap[gb775]? = some (.cells #[.int .i64 t764, (.slice Ao11 t765.length co11), (.slice Ao12 t768.length co12)] 46 (0, 0))) ∧ Aside0 (IsS106 w0 w' g s0_0 x1001_1) ∧ Aside0 (KeepBut w w' g none) ∧ Aside0 (Below w0.heap.size w0 w'))
 case atStart => exact ⟨(y776), (wrap64 (t779 + (wrap64 ((wrap64 (Int.tdiv t781 59)) * 6)))), (t782), (by rfl), H', ⟨Nat.le_refl _⟩, ⟨by exact HO773.out⟩, ⟨by exact HO778.out⟩, ⟨by exact HO767.out⟩, ⟨by exact HO770.out⟩, ⟨by exact BK763.out⟩, ⟨by exact BK775.out⟩, ⟨HI0.out⟩, ⟨HK.out⟩, ⟨HB.out⟩⟩
 case round =>
  clear H'
  obtain ⟨x7_1, x8_1, x1001_1, rfl, HA, HK1, HO_6, HO_7, HO_776001, HO_776002, BK763, BK775, HI0, HK, HB⟩ := hrel
  cases gk with
  | zero => exact absurd HA.out (by simp [spec_l20Acted.l0])
  | succ k1 =>
   have H := HA.out
   clear HA
   simp only [spec_l20Acted.l0] at H
   by_cases c17 : x8_1 > 0
   ·rw [if_pos c17] at H
    have c17b0 : decide (0 < x8_1) = true := decide_eq_true c17
    clear c17
    replace H := Option.bind_eq_some_iff.mp H
    obtain ⟨⟨t783, t784, t785, t786⟩, A180, H⟩ := H
    try dsimp only at H
    have A18 := Z.k A180
    clear A180
    obtain ⟨c19, H⟩ := Z.ifp H
    have LMc19 := Z.k c19
    clear c19
    obtain ⟨y787, hy787⟩ : ∃ y_ : List (S48), y_ = (x7_1 ++ [(⟨t783, t784, t785⟩ : S48)]) := ⟨_, rfl⟩
    replace H : (spec_l20Acted.l0 k1 t771 y787 (wrap64 (x8_1 - 1)) s0_0 t786 t764 t765 t768) = some (r1, r2, r3, r4, r5, r6) := by (rw [hy787]; with_reducible exact H)
    have Ny787 := Z.k hy787
    clear hy787
    have H' := Z.k H
    clear H
    have hnb20 := NB775_763.out
    have hnc20 := NB763_775.out
    have hnb21 := NB775_0.out
    have hnc21 := NB0_775.out
    have hcz22 := Z.c3 BK775.out
    go_wp2_with (first | ((with_reducible refine gate_callee (f := 66) rfl ?_); refine goesL_ (some 29) rfl rfl Try.func66 (by kernel_rfl) rfl #[.pointer (some ⟨g, 0, none⟩), .agg #[.int .i64 t764, .slice Ao11 t765.length co11, .slice Ao12 t768.length co12]] rfl Z.ar ?_; (with_reducible refine (spec_l20Act.calls k1 g s0_0 x1001_1 t764 _ _ t765 _ _ t768 t783 t784 t785 t786 w0 _ ?q1 ?q2 ?q3 ?q4 ?q5 ?q6 ?q7 A18.out).mono ?_); (case q1 => exact HI0.out); (case q2 => exact HB.out); (case q3 => exact (Kd.R_reads' HO_776001.out).2.2); (case q4 => exact (Kd.R_reads' HO_776001.out).2.1); (case q5 => exact far_slice (IsS106.own_ne HI0.out HO_776001.out (by decide))); (case q6 => exact Kd.C_foot_own (IsS106.apart HI0.out HO_776002.out (by decide)) (fun _ h_ => h_.2)); (case q7 => exact (Kd.R_reads' HO_776002.out).2.1); rintro e w23 ⟨rfl, hi, hb, hk⟩; refine ⟨_, rfl, ?_⟩; replace HO_6 := Z.k (Kd.R_mono (Kd.R_keep (IsS106.apart HI0.out HO_6.out (by decide)) hk (fun _ h => h.2)) (fun _ h => h.1)); replace HO_7 := Z.k (Kd.R_mono (Kd.R_keep (IsS106.apart HI0.out HO_7.out (by decide)) hk (fun _ h => h.2)) (fun _ h => h.1)); replace HO_776001 := Z.k (Kd.R_mono (Kd.R_keep (IsS106.apart HI0.out HO_776001.out (by decide)) hk (fun _ h => h.2)) (fun _ h => h.1)); replace HO_776002 := Z.k (Kd.R_mono (Kd.R_keep (IsS106.apart HI0.out HO_776002.out (by decide)) hk (fun _ h => h.2)) (fun _ h => h.1)); replace BK763 := Z.k (KeepBut.blk hk (g' := gb763) (o := .cells #[.int .i64 0, .slice none 0 0, .slice none 0 0] 46 (0, 0)) (Z.bk BK763.out) NB763_0.out (by simp)); replace BK775 := Z.k (KeepBut.blk hk (g' := gb775) (o := .cells #[.int .i64 t764, .slice Ao11 t765.length co11, .slice Ao12 t768.length co12] 46 (0, 0)) (Z.bk BK775.out) NB775_0.out (by simp)); replace HK := Z.k (KeepBut.trans HK.out hk (.inl rfl)); replace HB := Z.k hb; replace HI0 := Z.k hi; (try clear hb); (try clear hk); (try clear hi)) | ((with_reducible refine gate_builtin (b := .append) (xs := #[.tmp 26, .tmp 30]) rfl ?_); at_builtin; refine Kd.R_append k48 w.heap.size rfl (.tmp 26) (.tmp 30) 58 48 (.agg #[(.int .i64 0), (.int .i64 0), (.int .i64 0)]) 24 rfl Try.underlying58 info48 rfl (by decide) (by omega) u7 x7_1 (⟨t783, t784, t785⟩ : S48) [.int .i64 t783, .int .i64 t784, .int .i64 t785] (fun _ => True) (fun _ => False) rfl rfl ?aP (fun _ hk => hk.elim) ?aF ?aO (Below.refl _ _) ?aS ?aL ?_; (case aP => exact k48_mkM _ _ _ (⟨t783, t784, t785⟩ : S48)); (case aF => exact (fun _ _ => trivial)); (case aO => exact HO_7.out); (case aS => exact (keep_size (w := w) (g := g) (row := none) HK.out)); (case aL => have := LMc19.out; omega); intro v788 w24 ho hb hg hat; rw [← Ny787.out] at ho; replace HO_6 := Z.k (Kd.R_over' HO_6.out (Kd.R_typed HO_7.out) (by decide) hg); replace HO_776001 := Z.k (Kd.R_over' HO_776001.out (Kd.R_typed HO_7.out) (by decide) hg); replace HO_776002 := Z.k (Kd.R_over' HO_776002.out (Kd.R_typed HO_7.out) (by decide) hg); replace BK763 := Z.k (blk_grown (g := gb763) (o := .cells #[.int .i64 0, .slice none 0 0, .slice none 0 0] 46 (0, 0)) (Z.bk BK763.out) hg (Kd.R_ne HO_7.out BK763.out (by decide))); replace BK775 := Z.k (blk_grown (g := gb775) (o := .cells #[.int .i64 t764, .slice Ao11 t765.length co11, .slice Ao12 t768.length co12] 46 (0, 0)) (Z.bk BK775.out) hg (Kd.R_ne HO_7.out BK775.out (by decide))); replace HB := Z.k (below_weaken HB.out HL.out hb); replace HI0 := Z.k (IsS106.grown HI0.out hg (IsS106.own_ne HI0.out HO_7.out (by decide))); replace HK := Z.k (KeepBut.trans HK.out (KeepBut.of_grown hg g) (Kd.R_base2 HO_7.out)); have HO789 := Z.k ho; clear HO_7; clear ho hb hg hat))
    go_roundg k1
    case measure => have := HK1.out; omega
    case rel => exact ⟨(y787), (wrap64 (x8_1 - 1)), (t786), (by rfl), H', ⟨by have := HK1.out; omega⟩, ⟨by exact HO_6.out⟩, ⟨by exact HO789.out⟩, ⟨by exact HO_776001.out⟩, ⟨by exact HO_776002.out⟩, ⟨by exact BK763.out⟩, ⟨by exact BK775.out⟩, ⟨HI0.out⟩, ⟨HK.out⟩, ⟨HB.out⟩⟩
   ·rw [if_neg c17] at H
    have c17b0 : decide (0 < x8_1) = false := decide_eq_false c17
    clear c17
    simp only [Option.some.injEq, Prod.mk.injEq] at H
    obtain ⟨rfl, rfl, rfl, rfl, rfl, rfl⟩ := H
    have hnb25 := NB775_763.out
    have hnc25 := NB763_775.out
    have hnb26 := NB775_0.out
    have hnc26 := NB0_775.out
    have hcz27 := Z.c3 BK775.out
    have hnb28 := NB763_0.out
    have hnc28 := NB0_763.out
    have hcz29 := Z.c3 BK763.out
    go_wp2
    refine bodyPost_ret (results_ctt rfl _ _ gb763 46 #[.int .i64 t764, .slice Ao11 t765.length co11, .slice Ao12 t768.length co12] (0, 0) _ rfl (by refine blk_put (cs := #[.int .i64 t764, .slice Ao11 t765.length co11, .slice none 0 0]) ?_ 2 _ rfl; refine blk_put (cs := #[.int .i64 t764, .slice none 0 0, .slice none 0 0]) ?_ 1 _ rfl; refine blk_put (cs := #[.int .i64 0, .slice none 0 0, .slice none 0 0]) ?_ 0 _ rfl; exact BK763.out) Try.underlying46 rfl (by kernel_rfl)) rfl ?_
    exact ⟨_, _, _, _, by rfl, by exact Kd.R_mono (Kd.R_far (p := ⟨gb763, 2, none⟩) (Kd.R_far (p := ⟨gb763, 1, none⟩) (Kd.R_far (p := ⟨gb763, 0, none⟩) (Kd.R_types HO_776001.out BK763.out (by decide)) (fun _ hk => hk.2) (.int .i64 t764)) (fun _ hk => hk.2) (.slice Ao11 t765.length co11)) (fun _ hk => hk.2) (.slice Ao12 t768.length co12)) (fun _ hk => hk.1), by exact Kd.R_mono (Kd.R_far (p := ⟨gb763, 2, none⟩) (Kd.R_far (p := ⟨gb763, 1, none⟩) (Kd.R_far (p := ⟨gb763, 0, none⟩) (Kd.R_types HO_776002.out BK763.out (by decide)) (fun _ hk => hk.2) (.int .i64 t764)) (fun _ hk => hk.2) (.slice Ao11 t765.length co11)) (fun _ hk => hk.2) (.slice Ao12 t768.length co12)) (fun _ hk => trivial), by exact Kd.R_mono (Kd.R_far (p := ⟨gb763, 2, none⟩) (Kd.R_far (p := ⟨gb763, 1, none⟩) (Kd.R_far (p := ⟨gb763, 0, none⟩) (Kd.R_types HO_6.out BK763.out (by decide)) (fun _ hk => hk.2) (.int .i64 t764)) (fun _ hk => hk.2) (.slice Ao11 t765.length co11)) (fun _ hk => hk.2) (.slice Ao12 t768.length co12)) (fun _ hk => hk.1), by exact Kd.R_mono (Kd.R_far (p := ⟨gb763, 2, none⟩) (Kd.R_far (p := ⟨gb763, 1, none⟩) (Kd.R_far (p := ⟨gb763, 0, none⟩) (Kd.R_types HO_7.out BK763.out (by decide)) (fun _ hk => hk.2) (.int .i64 t764)) (fun _ hk => hk.2) (.slice Ao11 t765.length co11)) (fun _ hk => hk.2) (.slice Ao12 t768.length co12)) (fun _ hk => trivial), by repeat ((with_reducible first | exact HI0.out | refine IsS106.far ?_ NB0_763.out _)), by repeat ((with_reducible first | exact HB.out | refine below_set ?_ GE763.out)), by repeat ((with_reducible first | exact HK.out | refine keep_far ?_ GW763.out _))⟩

end Go.Proofs.Ytojoblllgddckaa.PAll

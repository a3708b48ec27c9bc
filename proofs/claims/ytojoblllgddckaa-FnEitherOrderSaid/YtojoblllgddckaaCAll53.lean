/- Walks of functions that laws of this seat reach, in the form of the print. -/
import Derived.Test.YtojoblllgddckaaCAll0
import Derived.Test.YtojoblllgddckaaCAll1
import Derived.Test.YtojoblllgddckaaCAll47
import Derived.Test.YtojoblllgddckaaCAll49
import Derived.Test.YtojoblllgddckaaCAll68
import Derived.Test.YtojoblllgddckaaZ
-- PRINTED
namespace Go.Proofs.Ytojoblllgddckaa.PAll
open Go.RowKit Go.Proofs.YtojoblllgddckaaW.PrintWords Go.Proofs.YtojoblllgddckaaW.PrintLast Go.Proofs.YtojoblllgddckaaW.PrintMore
attribute [local go_sem] max2_int min2_int max_two min_two max_three min_three max_four min_four
set_option linter.unusedVariables false
set_option linter.unusedSimpArgs false

/-! ### spec_DrawEitherOrder: function 35 -/
def spec_DrawEitherOrder.f (k : Nat) (l0 : List Int) : Option (Int × List Int × (List (List (S91))) × List Int × Int × Int × Int × Int × Int × Int) := (spec_l20Open.f l0).bind fun bt880 => ((spec_l20State.f k bt880.1 bt880.2 14).bind fun bt883 => ((spec_l20Act.f k bt880.1 bt883.2.2.2.2 bt883.1 bt883.2.1 bt883.2.2.1).bind fun bt895 => ((spec_l20Act.f k bt880.1 bt895.2.2.2 bt883.1 bt883.2.1 bt883.2.2.1).bind fun bt899 => (some (bt883.1, bt883.2.1, bt883.2.2.1, bt883.2.2.2.1, bt895.1, bt895.2.1, bt895.2.2.1, bt899.1, bt899.2.1, bt899.2.2.1)))))
def spec_DrawEitherOrder.T3 : Bool × List (List Nat × List Nat) := (true, [([], []), ([], []), ([], []), ([], []), ([2, 3], [2, 3]), ([], []), ([], []), ([5, 6, 4], [5, 6]), ([0, 7, 0], [0]), ([1, 8, 0, 1, 8], [1]), ([4, 9, 0, 1, 2, 3, 4, 8, 9], [4]), ([7, 10, 0, 1, 2, 3, 4, 5, 6, 7, 8, 9, 10], [7])])
def spec_DrawEitherOrder.B3 : List Nat := [0, 0, 0, 0, 12, 0, 0, 124, 253, 511, 1023, 2047]
theorem spec_DrawEitherOrder.tab3 : rtab .any (opsOf Try.f35 3) = spec_DrawEitherOrder.T3 := by kernel_rfl
theorem spec_DrawEitherOrder.bits3 : waitsOk spec_DrawEitherOrder.T3.2 spec_DrawEitherOrder.B3 = true := by kernel_rfl
set_option maxHeartbeats 8000000 in
set_option maxRecDepth 100000 in
theorem spec_DrawEitherOrder.calls (k : Nat) (A0 : Option Addr) (c0 : Nat) (l0 : List Int) (r1 : Int) (r2 : List Int) (r3 : List (List (S91))) (r4 : List Int) (r5 : Int) (r6 : Int) (r7 : Int) (r8 : Int) (r9 : Int) (r10 : Int) (w : World) (hr0 : Kd.C (Kd.int .u8) w A0 l0.length l0) (hc0 : l0.length ≤ c0) (h : spec_DrawEitherOrder.f k l0 = some (r1, r2, r3, r4, r5, r6, r7, r8, r9, r10)) :
  Calls Try.prog 35 #[.slice A0 l0.length c0] w fun e w' => ∃ v1_ v2_ v3_ : Value, e = .returned (.tuple #[.agg #[.int .i64 r1, v1_, v2_], v3_, .agg #[.int .i64 r5, .int .i64 r6, .int .i64 r7], .agg #[.int .i64 r8, .int .i64 r9, .int .i64 r10]]) ∧ Kd.R (Kd.int .i64) 3 w' w.heap.size (fun k_ => some k_ ≠ (v3_ : Value).ownBlock) v1_ r2 ∧ Kd.R (Kd.slice 91 k91) 56 w' w.heap.size (fun _ => True) v2_ r3 ∧ Kd.R (Kd.int .i64) 3 w' w.heap.size (fun k_ => some k_ ≠ (v1_ : Value).ownBlock) v3_ r4 ∧ Below w.heap.size w w' := by
 have hu46 := Try.underlying46
 have hu48 := Try.underlying48
 have HR0 := Z.k hr0
 have HC0 := Z.k hc0
 clear hr0 hc0
 have HB := Z.k (Below.refl w.heap.size w)
 have H := h
 clear h
 unfold spec_DrawEitherOrder.f at H
 replace H := Option.bind_eq_some_iff.mp H
 obtain ⟨⟨t880, t881⟩, A20, H⟩ := H
 try dsimp only at H
 have A2 := Z.k A20
 clear A20
 replace H := Option.bind_eq_some_iff.mp H
 obtain ⟨⟨t883, t884, t887, t890, t893⟩, A30, H⟩ := H
 try dsimp only at H
 have A3 := Z.k A30
 clear A30
 replace H := Option.bind_eq_some_iff.mp H
 obtain ⟨⟨t895, t896, t897, t898⟩, A40, H⟩ := H
 try dsimp only at H
 have A4 := Z.k A40
 clear A40
 replace H := Option.bind_eq_some_iff.mp H
 obtain ⟨⟨t899, t900, t901, t902⟩, A50, H⟩ := H
 try dsimp only at H
 have A5 := Z.k A50
 clear A50
 simp only [Option.some.injEq, Prod.mk.injEq] at H
 obtain ⟨rfl, rfl, rfl, rfl, rfl, rfl, rfl, rfl, rfl, rfl⟩ := H
 go_enter Try.func35, Try.ntmps35
 try go_wp2_with (first | ((with_reducible refine gate_dst (N := 2) rfl ?_); refine Z.bx #[.int .i64 0, .slice none 0 0, .slice none 0 0] 46 HB ?_; clear HB; intro gb877 w6 BK877 GE877 HB hg hb; have GW877 := GE877; clear hb hg) | ((with_reducible refine gate_dst (N := 4) rfl ?_); refine Z.bz #[.int .i64 0, .int .i64 0, .int .i64 0] 48 HB GE877 ?_; clear HB; intro gb878 w7 BK878 GE878 HB hg hb; have GW878 := GE878; have NB877_878 := Z.nl hg BK877; have NB878_877 := Z.ng hg BK877; replace BK877 := Z.bb BK877 hb; clear hb hg) | ((with_reducible refine gate_dst (N := 5) rfl ?_); refine box_event ?hg (N := 5) ?hd (cs := #[.int .i64 0, .int .i64 0, .int .i64 0]) (t := 48) ?hr ?_; (case hd | hg => rfl); (case hr => (go_simp; done)); intro gb879 hg w8 hbox hb; have BK879 := Z.k hbox; have GW879 := Z.k ((by rw [hg]; exact (below_size HB.out) : w.heap.size ≤ gb879)); have GE879 := Z.k ((by rw [hg]; exact (below_size HB.out) : w.heap.size ≤ gb879)); replace HB := Z.k (below_step HB.out hb); have NB877_879 := Z.nl hg BK877; have NB879_877 := Z.ng hg BK877; replace BK877 := Z.bb BK877 hb; have NB878_879 := Z.nl hg BK878; have NB879_878 := Z.ng hg BK878; replace BK878 := Z.bb BK878 hb; clear hb hbox hg) | ((with_reducible refine gate_callee (f := 49) rfl ?_); refine goesL_ (some 10) rfl rfl Try.func49 (by kernel_rfl) rfl #[.slice A0 l0.length c0] rfl Z.ar ?_; (with_reducible refine (spec_l20Open.calls _ _ l0 t880 t881 w _ ?q1 ?q2 ?q3 A2.out).mono ?_); (case q1 => exact HB.out); (case q2 => exact HR0.out); (case q3 => exact HC0.out); rintro e w9 ⟨g882, rfl, hi, hb, hb2⟩; refine ⟨_, rfl, ?_⟩; replace HB := Z.k hb; have HI882 := Z.k hi; have NB882_877 := Z.k (IsS106.ne_blk hi (blk_below (g := gb877) (o := .cells #[.int .i64 0, .slice none 0 0, .slice none 0 0] 46 (0, 0)) (Z.bk BK877.out) hb2) (by decide)); have NB877_882 := Z.k (Ne.symm (IsS106.ne_blk hi (blk_below (g := gb877) (o := .cells #[.int .i64 0, .slice none 0 0, .slice none 0 0] 46 (0, 0)) (Z.bk BK877.out) hb2) (by decide))); replace BK877 := Z.k (blk_below (g := gb877) (o := .cells #[.int .i64 0, .slice none 0 0, .slice none 0 0] 46 (0, 0)) (Z.bk BK877.out) hb2); have NB882_878 := Z.k (IsS106.ne_blk hi (blk_below (g := gb878) (o := .cells #[.int .i64 0, .int .i64 0, .int .i64 0] 48 (0, 0)) (Z.bk BK878.out) hb2) (by decide)); have NB878_882 := Z.k (Ne.symm (IsS106.ne_blk hi (blk_below (g := gb878) (o := .cells #[.int .i64 0, .int .i64 0, .int .i64 0] 48 (0, 0)) (Z.bk BK878.out) hb2) (by decide))); replace BK878 := Z.k (blk_below (g := gb878) (o := .cells #[.int .i64 0, .int .i64 0, .int .i64 0] 48 (0, 0)) (Z.bk BK878.out) hb2); have NB882_879 := Z.k (IsS106.ne_blk hi (blk_below (g := gb879) (o := .cells #[.int .i64 0, .int .i64 0, .int .i64 0] 48 (0, 0)) (Z.bk BK879.out) hb2) (by decide)); have NB879_882 := Z.k (Ne.symm (IsS106.ne_blk hi (blk_below (g := gb879) (o := .cells #[.int .i64 0, .int .i64 0, .int .i64 0] 48 (0, 0)) (Z.bk BK879.out) hb2) (by decide))); replace BK879 := Z.k (blk_below (g := gb879) (o := .cells #[.int .i64 0, .int .i64 0, .int .i64 0] 48 (0, 0)) (Z.bk BK879.out) hb2); (try clear hb); (try clear hb2); (try clear hi)) | ((with_reducible refine gate_callee (f := 71) rfl ?_); refine goesL_ (some 13) rfl rfl Try.func71 (by kernel_rfl) rfl #[.pointer (some ⟨g882, 0, none⟩), .int .i64 14] rfl Z.ar ?_; (with_reducible refine (spec_l20State.calls k g882 t880 t881 14 t883 t884 t887 t890 t893 w _ ?q1 ?q2 A3.out).mono ?_); (case q1 => exact HI882.out); (case q2 => exact HB.out); rintro e w10 ⟨v885, v888, v891, rfl, ho0, ho1, ho2, hi, hb, hk⟩; refine ⟨_, rfl, ?_⟩; replace BK877 := Z.k (KeepBut.blk hk (g' := gb877) (o := .cells #[.int .i64 0, .slice none 0 0, .slice none 0 0] 46 (0, 0)) (Z.bk BK877.out) NB877_882.out (by simp)); replace BK878 := Z.k (KeepBut.blk hk (g' := gb878) (o := .cells #[.int .i64 0, .int .i64 0, .int .i64 0] 48 (0, 0)) (Z.bk BK878.out) NB878_882.out (by simp)); replace BK879 := Z.k (KeepBut.blk hk (g' := gb879) (o := .cells #[.int .i64 0, .int .i64 0, .int .i64 0] 48 (0, 0)) (Z.bk BK879.out) NB879_882.out (by simp)); have HO886 := Z.k (Kd.R_lower ho0 (below_size HB.out)); have HO889 := Z.k (Kd.R_lower ho1 (below_size HB.out)); have HO892 := Z.k (Kd.R_lower ho2 (below_size HB.out)); replace HB := Z.k hb; replace HI882 := Z.k hi; (try clear hb); (try clear hk); (try clear hi); (try clear ho0); (try clear ho1); (try clear ho2)) | ((with_reducible refine gate_dst (N := 7) rfl ?_); refine box_event ?hg (N := 7) ?hd (cs := #[.int .i64 0, .slice none 0 0, .slice none 0 0]) (t := 46) ?hr ?_; (case hd | hg => rfl); (case hr => (go_simp; done)); intro gb894 hg w11 hbox hb; replace HO886 := Z.k (Kd.R_below HO886.out hb); replace HO889 := Z.k (Kd.R_below HO889.out hb); replace HO892 := Z.k (Kd.R_below HO892.out hb); have BK894 := Z.k hbox; have GW894 := Z.k ((by rw [hg]; exact (below_size HB.out) : w.heap.size ≤ gb894)); have GE894 := Z.k ((by rw [hg]; exact (below_size HB.out) : w.heap.size ≤ gb894)); replace HB := Z.k (below_step HB.out hb); have NB877_894 := Z.nl hg BK877; have NB894_877 := Z.ng hg BK877; replace BK877 := Z.bb BK877 hb; have NB878_894 := Z.nl hg BK878; have NB894_878 := Z.ng hg BK878; replace BK878 := Z.bb BK878 hb; have NB879_894 := Z.nl hg BK879; have NB894_879 := Z.ng hg BK879; replace BK879 := Z.bb BK879 hb; have NB882_894 := Z.k ((by rw [hg]; exact Nat.ne_of_lt (IsS106.lt HI882.out) : g882 ≠ gb894)); have NB894_882 := Z.k ((by rw [hg]; exact Nat.ne_of_gt (IsS106.lt HI882.out) : gb894 ≠ g882)); replace HI882 := Z.k (IsS106.below HI882.out hb); clear hb hbox hg; have hnb12 := NB894_877.out; have hnc12 := NB877_894.out; have hnb13 := NB894_878.out; have hnc13 := NB878_894.out; have hnb14 := NB894_879.out; have hnc14 := NB879_894.out; have hnb15 := NB894_882.out; have hnc15 := NB882_894.out; have hcz16 := Z.c3 BK894.out; obtain ⟨Ao17, co17, eo17⟩ := Kd.R_slice HO886.out; subst eo17; obtain ⟨Ao18, co18, eo18⟩ := Kd.R_slice HO889.out; subst eo18))
 have n0_ : Aside0 (Kd.R (Kd.int .i64) 3 (((w11.setCell ⟨gb894, 0, none⟩ (.int .i64 t883)).setCell ⟨gb894, 1, none⟩ (.slice Ao17 t884.length co17)).setCell ⟨gb894, 2, none⟩ (.slice Ao18 t887.length co18)) w.heap.size (fun k_ => some k_ ≠ (v891 : Value).ownBlock) (.slice Ao17 t884.length co17) t884) := ⟨by exact Kd.R_mono (Kd.R_far (p := ⟨gb894, 2, none⟩) (Kd.R_far (p := ⟨gb894, 1, none⟩) (Kd.R_far (p := ⟨gb894, 0, none⟩) (Kd.R_types HO886.out BK894.out (by decide)) (fun _ hk => hk.2) (.int .i64 t883)) (fun _ hk => hk.2) (.slice Ao17 t884.length co17)) (fun _ hk => hk.2) (.slice Ao18 t887.length co18)) (fun _ hk => hk.1)⟩
 have n1_ : Aside0 (Kd.R (Kd.slice 91 k91) 56 (((w11.setCell ⟨gb894, 0, none⟩ (.int .i64 t883)).setCell ⟨gb894, 1, none⟩ (.slice Ao17 t884.length co17)).setCell ⟨gb894, 2, none⟩ (.slice Ao18 t887.length co18)) w.heap.size (fun _ => True) (.slice Ao18 t887.length co18) t887) := ⟨by exact Kd.R_mono (Kd.R_far (p := ⟨gb894, 2, none⟩) (Kd.R_far (p := ⟨gb894, 1, none⟩) (Kd.R_far (p := ⟨gb894, 0, none⟩) (Kd.R_types HO889.out BK894.out (by decide)) (fun _ hk => hk.2) (.int .i64 t883)) (fun _ hk => hk.2) (.slice Ao17 t884.length co17)) (fun _ hk => hk.2) (.slice Ao18 t887.length co18)) (fun _ hk => trivial)⟩
 have n2_ : Aside0 (Kd.R (Kd.int .i64) 3 (((w11.setCell ⟨gb894, 0, none⟩ (.int .i64 t883)).setCell ⟨gb894, 1, none⟩ (.slice Ao17 t884.length co17)).setCell ⟨gb894, 2, none⟩ (.slice Ao18 t887.length co18)) w.heap.size (fun k_ => some k_ ≠ (.slice Ao17 t884.length co17 : Value).ownBlock) v891 t890) := ⟨by exact Kd.R_mono (Kd.R_far (p := ⟨gb894, 2, none⟩) (Kd.R_far (p := ⟨gb894, 1, none⟩) (Kd.R_far (p := ⟨gb894, 0, none⟩) (Kd.R_types HO892.out BK894.out (by decide)) (fun _ hk => hk.2) (.int .i64 t883)) (fun _ hk => hk.2) (.slice Ao17 t884.length co17)) (fun _ hk => hk.2) (.slice Ao18 t887.length co18)) (fun _ hk => hk.1)⟩
 have n3_ : Aside0 ((((w11.setCell ⟨gb894, 0, none⟩ (.int .i64 t883)).setCell ⟨gb894, 1, none⟩ (.slice Ao17 t884.length co17)).setCell ⟨gb894, 2, none⟩ (.slice Ao18 t887.length co18)).heap[gb877]? = some (.cells #[.int .i64 0, .slice none 0 0, .slice none 0 0] 46 (0, 0))) := ⟨by refine blk_far ?_ NB877_894.out _; refine blk_far ?_ NB877_894.out _; refine blk_far ?_ NB877_894.out _; exact BK877.out⟩
 have n4_ : Aside0 ((((w11.setCell ⟨gb894, 0, none⟩ (.int .i64 t883)).setCell ⟨gb894, 1, none⟩ (.slice Ao17 t884.length co17)).setCell ⟨gb894, 2, none⟩ (.slice Ao18 t887.length co18)).heap[gb878]? = some (.cells #[.int .i64 0, .int .i64 0, .int .i64 0] 48 (0, 0))) := ⟨by refine blk_far ?_ NB878_894.out _; refine blk_far ?_ NB878_894.out _; refine blk_far ?_ NB878_894.out _; exact BK878.out⟩
 have n5_ : Aside0 ((((w11.setCell ⟨gb894, 0, none⟩ (.int .i64 t883)).setCell ⟨gb894, 1, none⟩ (.slice Ao17 t884.length co17)).setCell ⟨gb894, 2, none⟩ (.slice Ao18 t887.length co18)).heap[gb879]? = some (.cells #[.int .i64 0, .int .i64 0, .int .i64 0] 48 (0, 0))) := ⟨by refine blk_far ?_ NB879_894.out _; refine blk_far ?_ NB879_894.out _; refine blk_far ?_ NB879_894.out _; exact BK879.out⟩
 have n6_ : Aside0 ((((w11.setCell ⟨gb894, 0, none⟩ (.int .i64 t883)).setCell ⟨gb894, 1, none⟩ (.slice Ao17 t884.length co17)).setCell ⟨gb894, 2, none⟩ (.slice Ao18 t887.length co18)).heap[gb894]? = some (.cells #[.int .i64 t883, .slice Ao17 t884.length co17, .slice Ao18 t887.length co18] 46 (0, 0))) := ⟨by refine blk_put (cs := #[.int .i64 t883, .slice Ao17 t884.length co17, .slice none 0 0]) ?_ 2 _ rfl; refine blk_put (cs := #[.int .i64 t883, .slice none 0 0, .slice none 0 0]) ?_ 1 _ rfl; refine blk_put (cs := #[.int .i64 0, .slice none 0 0, .slice none 0 0]) ?_ 0 _ rfl; exact BK894.out⟩
 have n7_ : Aside0 (IsS106 w (((w11.setCell ⟨gb894, 0, none⟩ (.int .i64 t883)).setCell ⟨gb894, 1, none⟩ (.slice Ao17 t884.length co17)).setCell ⟨gb894, 2, none⟩ (.slice Ao18 t887.length co18)) g882 t880 t893) := ⟨by repeat ((with_reducible first | exact HI882.out | refine IsS106.far ?_ NB882_894.out _))⟩
 have n8_ : Aside0 (Below w.heap.size w (((w11.setCell ⟨gb894, 0, none⟩ (.int .i64 t883)).setCell ⟨gb894, 1, none⟩ (.slice Ao17 t884.length co17)).setCell ⟨gb894, 2, none⟩ (.slice Ao18 t887.length co18))) := ⟨by repeat ((with_reducible first | exact HB.out | refine below_set ?_ GE894.out))⟩
 (try clear HO886)
 (try clear HO889)
 (try clear HO892)
 (try clear BK877)
 (try clear BK878)
 (try clear BK879)
 (try clear BK894)
 (try clear HI882)
 (try clear HB)
 generalize (((w11.setCell ⟨gb894, 0, none⟩ (.int .i64 t883)).setCell ⟨gb894, 1, none⟩ (.slice Ao17 t884.length co17)).setCell ⟨gb894, 2, none⟩ (.slice Ao18 t887.length co18)) = w19 at n0_ n1_ n2_ n3_ n4_ n5_ n6_ n7_ n8_ ⊢
 have HO886 := n0_
 have HO889 := n1_
 have HO892 := n2_
 have BK877 := n3_
 have BK878 := n4_
 have BK879 := n5_
 have BK894 := n6_
 have HI882 := n7_
 have HB := n8_
 clear n0_ n1_ n2_ n3_ n4_ n5_ n6_ n7_ n8_
 replace HO886 := Z.k (Kd.R_drew HO886.out)
 replace HO889 := Z.k (Kd.R_drew HO889.out)
 replace HO892 := Z.k (Kd.R_drew HO892.out)
 replace BK877 := Z.k (blk_drew BK877.out)
 replace BK878 := Z.k (blk_drew BK878.out)
 replace BK879 := Z.k (blk_drew BK879.out)
 replace BK894 := Z.k (blk_drew BK894.out)
 replace HI882 := Z.k (IsS106.drew HI882.out)
 replace HB := Z.k (below_drew1 HB.out)
 refine start_ (n := 12) (S := fun w' => w'.cell? ⟨gb894, 0, none⟩ = some (.int .i64 t883) ∧ w'.cell? ⟨gb894, 1, none⟩ = some (.slice Ao17 t884.length co17) ∧ w'.cell? ⟨gb894, 2, none⟩ = some (.slice Ao18 t887.length co18)) (ds := []) #[false, false, false, false, false, false, false, false, false, false, false, false] (by kernel_rfl) rfl rfl ⟨(blk_cell BK894.out 0).trans rfl, (blk_cell BK894.out 1).trans rfl, (blk_cell BK894.out 2).trans rfl⟩ (fun hHeld => ?_); refine with_tabW spec_DrawEitherOrder.tab3 spec_DrawEitherOrder.bits3 (fun HT_ HW_ => ?_)
 generalize w19.drew = w20 at HO886 HO889 HO892 BK877 BK878 BK879 BK894 HI882 HB hHeld ⊢
 refine Z.pv 1 17 12 2 HT_.out ?_
 refine Z.pv 2 18 12 6 HT_.out ?_
 refine Z.pv 5 21 12 38 HT_.out ?_
 refine Z.t3 0 16 12 39 HT_.out HW_.out hHeld ?_
 refine Z.t3 3 19 12 47 HT_.out HW_.out hHeld ?_
 refine Z.t3 6 22 12 111 HT_.out HW_.out hHeld ?_
 refine one_ (i := 4) (N := some 20) (Z.mb 12 127) rfl rfl (one_of HT_.out (by kernel_rfl)) (by decide) (fun K hK => ?_)
 refine goes_ Try.func66 (by kernel_rfl) rfl #[.pointer (some ⟨g882, 0, none⟩), .agg #[.int .i64 t883, .slice Ao17 t884.length co17, .slice Ao18 t887.length co18]] (by rfl) rfl rfl Z.ar ?_
 with_reducible refine (spec_l20Act.calls k g882 t880 t893 t883 _ _ t884 _ _ t887 t895 t896 t897 t898 w _ ?q1 ?q2 ?q3 ?q4 ?q5 ?q6 ?q7 A4.out).mono ?_
 (case q1 => exact HI882.out)
 (case q2 => exact HB.out)
 (case q3 => exact (Kd.R_reads' HO886.out).2.2)
 (case q4 => exact (Kd.R_reads' HO886.out).2.1)
 (case q5 => exact far_slice (IsS106.own_ne HI882.out HO886.out (by decide)))
 (case q6 => exact Kd.C_foot_own (IsS106.apart HI882.out HO889.out (by decide)) (fun _ h_ => h_.2))
 (case q7 => exact (Kd.R_reads' HO889.out).2.1)
 rintro e w21 ⟨rfl, hi, hb, hk⟩
 refine ⟨_, rfl, ?_⟩
 replace BK877 := Z.k (KeepBut.blk hk (g' := gb877) (o := .cells #[.int .i64 0, .slice none 0 0, .slice none 0 0] 46 (0, 0)) (Z.bk BK877.out) NB877_882.out (by simp))
 replace BK878 := Z.k (KeepBut.blk hk (g' := gb878) (o := .cells #[.int .i64 0, .int .i64 0, .int .i64 0] 48 (0, 0)) (Z.bk BK878.out) NB878_882.out (by simp))
 replace BK879 := Z.k (KeepBut.blk hk (g' := gb879) (o := .cells #[.int .i64 0, .int .i64 0, .int .i64 0] 48 (0, 0)) (Z.bk BK879.out) NB879_882.out (by simp))
 replace HO886 := Z.k (Kd.R_mono (Kd.R_keep (IsS106.apart HI882.out HO886.out (by decide)) hk (fun _ h => h.2)) (fun _ h => h.1))
 replace HO889 := Z.k (Kd.R_mono (Kd.R_keep (IsS106.apart HI882.out HO889.out (by decide)) hk (fun _ h => h.2)) (fun _ h => h.1))
 replace HO892 := Z.k (Kd.R_mono (Kd.R_keep (IsS106.apart HI882.out HO892.out (by decide)) hk (fun _ h => h.2)) (fun _ h => h.1))
 replace BK894 := Z.k (KeepBut.blk hk (g' := gb894) (o := .cells #[.int .i64 t883, .slice Ao17 t884.length co17, .slice Ao18 t887.length co18] 46 (0, 0)) (Z.bk BK894.out) NB894_882.out (by simp))
 replace HB := Z.k hb
 replace HI882 := Z.k hi
 (try clear hb)
 (try clear hk)
 (try clear hi)
 refine hK.out _ _ ⟨(blk_cell BK894.out 0).trans rfl, (blk_cell BK894.out 1).trans rfl, (blk_cell BK894.out 2).trans rfl⟩ (fun hHeld => ?_)
 clear hK K
 refine Z.nm ?_
 refine one_ (i := 7) (N := some 23) (Z.mb 12 255) rfl rfl (one_of HT_.out (by kernel_rfl)) (by decide) (fun K hK => ?_)
 refine goes_ Try.func66 (by kernel_rfl) rfl #[.pointer (some ⟨g882, 0, none⟩), .agg #[.int .i64 t883, .slice Ao17 t884.length co17, .slice Ao18 t887.length co18]] (by rfl) rfl rfl Z.ar ?_
 with_reducible refine (spec_l20Act.calls k g882 t880 t898 t883 _ _ t884 _ _ t887 t899 t900 t901 t902 w _ ?q1 ?q2 ?q3 ?q4 ?q5 ?q6 ?q7 A5.out).mono ?_
 (case q1 => exact HI882.out)
 (case q2 => exact HB.out)
 (case q3 => exact (Kd.R_reads' HO886.out).2.2)
 (case q4 => exact (Kd.R_reads' HO886.out).2.1)
 (case q5 => exact far_slice (IsS106.own_ne HI882.out HO886.out (by decide)))
 (case q6 => exact Kd.C_foot_own (IsS106.apart HI882.out HO889.out (by decide)) (fun _ h_ => h_.2))
 (case q7 => exact (Kd.R_reads' HO889.out).2.1)
 rintro e w22 ⟨rfl, hi, hb, hk⟩
 refine ⟨_, rfl, ?_⟩
 replace BK877 := Z.k (KeepBut.blk hk (g' := gb877) (o := .cells #[.int .i64 0, .slice none 0 0, .slice none 0 0] 46 (0, 0)) (Z.bk BK877.out) NB877_882.out (by simp))
 replace BK878 := Z.k (KeepBut.blk hk (g' := gb878) (o := .cells #[.int .i64 0, .int .i64 0, .int .i64 0] 48 (0, 0)) (Z.bk BK878.out) NB878_882.out (by simp))
 replace BK879 := Z.k (KeepBut.blk hk (g' := gb879) (o := .cells #[.int .i64 0, .int .i64 0, .int .i64 0] 48 (0, 0)) (Z.bk BK879.out) NB879_882.out (by simp))
 replace HO886 := Z.k (Kd.R_mono (Kd.R_keep (IsS106.apart HI882.out HO886.out (by decide)) hk (fun _ h => h.2)) (fun _ h => h.1))
 replace HO889 := Z.k (Kd.R_mono (Kd.R_keep (IsS106.apart HI882.out HO889.out (by decide)) hk (fun _ h => h.2)) (fun _ h => h.1))
 replace HO892 := Z.k (Kd.R_mono (Kd.R_keep (IsS106.apart HI882.out HO892.out (by decide)) hk (fun _ h => h.2)) (fun _ h => h.1))
 replace BK894 := Z.k (KeepBut.blk hk (g' := gb894) (o := .cells #[.int .i64 t883, .slice Ao17 t884.length co17, .slice Ao18 t887.length co18] 46 (0, 0)) (Z.bk BK894.out) NB894_882.out (by simp))
 replace HB := Z.k hb
 replace HI882 := Z.k hi
 (try clear hb)
 (try clear hk)
 (try clear hi)
 refine hK.out _ _ ⟨(blk_cell BK894.out 0).trans rfl, (blk_cell BK894.out 1).trans rfl, (blk_cell BK894.out 2).trans rfl⟩ (fun hHeld => ?_)
 clear hK K
 refine Z.nm ?_
 refine one_ (i := 8) (N := none) #[true, true, true, true, true, true, true, true, true, false, false, false] rfl rfl (one_of HT_.out (by kernel_rfl)) (by decide) (fun K hK => ?_)
 have hs23 : w22.cell? ⟨gb877, 0, none⟩ = some (.int .i64 0) := (blk_cell BK877.out 0).trans rfl
 have hfs23 := blk_frozen BK877.out 0
 have hns23_1 := NB878_877.out
 have hns23_2 := NB879_877.out
 have hns23_3 := NB894_877.out
 have hms23_1 := NB877_878.out
 have hms23_2 := NB877_879.out
 have hms23_3 := NB877_894.out
 have hs24 : w22.cell? ⟨gb877, 1, none⟩ = some (.slice none 0 0) := (blk_cell BK877.out 1).trans rfl
 have hfs24 := blk_frozen BK877.out 1
 have hns24_1 := NB878_877.out
 have hns24_2 := NB879_877.out
 have hns24_3 := NB894_877.out
 have hms24_1 := NB877_878.out
 have hms24_2 := NB877_879.out
 have hms24_3 := NB877_894.out
 have hs25 : w22.cell? ⟨gb877, 2, none⟩ = some (.slice none 0 0) := (blk_cell BK877.out 2).trans rfl
 have hfs25 := blk_frozen BK877.out 2
 have hns25_1 := NB878_877.out
 have hns25_2 := NB879_877.out
 have hns25_3 := NB894_877.out
 have hms25_1 := NB877_878.out
 have hms25_2 := NB877_879.out
 have hms25_3 := NB877_894.out
 refine skip_ (w1 := ?_) (by rfl) rfl ?_ ?_
 rotate_left
 ·go_simp
  rfl
 refine hK.out _ _ ⟨(Z.f3 NB894_877.out (hHeld.1)), (Z.f3 NB894_877.out (hHeld.2.1)), (Z.f3 NB894_877.out (hHeld.2.2))⟩ (fun hHeld => ?_)
 clear hK K
 refine Z.pv 9 3 12 1023 HT_.out ?_
 refine one_ (i := 10) (N := none) #[true, true, true, true, true, true, true, true, true, true, true, false] rfl rfl (one_of HT_.out (by kernel_rfl)) (by decide) (fun K hK => ?_)
 have hs26 : w22.cell? ⟨gb878, 0, none⟩ = some (.int .i64 0) := (blk_cell BK878.out 0).trans rfl
 have hfs26 := blk_frozen BK878.out 0
 have hns26_0 := NB877_878.out
 have hns26_2 := NB879_878.out
 have hns26_3 := NB894_878.out
 have hms26_0 := NB878_877.out
 have hms26_2 := NB878_879.out
 have hms26_3 := NB878_894.out
 have hs27 : w22.cell? ⟨gb878, 1, none⟩ = some (.int .i64 0) := (blk_cell BK878.out 1).trans rfl
 have hfs27 := blk_frozen BK878.out 1
 have hns27_0 := NB877_878.out
 have hns27_2 := NB879_878.out
 have hns27_3 := NB894_878.out
 have hms27_0 := NB878_877.out
 have hms27_2 := NB878_879.out
 have hms27_3 := NB878_894.out
 have hs28 : w22.cell? ⟨gb878, 2, none⟩ = some (.int .i64 0) := (blk_cell BK878.out 2).trans rfl
 have hfs28 := blk_frozen BK878.out 2
 have hns28_0 := NB877_878.out
 have hns28_2 := NB879_878.out
 have hns28_3 := NB894_878.out
 have hms28_0 := NB878_877.out
 have hms28_2 := NB878_879.out
 have hms28_3 := NB878_894.out
 refine skip_ (w1 := ?_) (by rfl) rfl ?_ ?_
 rotate_left
 ·go_simp
  rfl
 refine hK.out _ _ ⟨(Z.f3 NB894_878.out (hHeld.1)), (Z.f3 NB894_878.out (hHeld.2.1)), (Z.f3 NB894_878.out (hHeld.2.2))⟩ (fun hHeld => ?_)
 clear hK K
 refine one_ (i := 11) (N := none) #[true, true, true, true, true, true, true, true, true, true, true, true] rfl rfl (one_of HT_.out (by kernel_rfl)) (by decide) (fun K hK => ?_)
 have hs29 : w22.cell? ⟨gb879, 0, none⟩ = some (.int .i64 0) := (blk_cell BK879.out 0).trans rfl
 have hfs29 := blk_frozen BK879.out 0
 have hns29_0 := NB877_879.out
 have hns29_1 := NB878_879.out
 have hns29_3 := NB894_879.out
 have hms29_0 := NB879_877.out
 have hms29_1 := NB879_878.out
 have hms29_3 := NB879_894.out
 have hs30 : w22.cell? ⟨gb879, 1, none⟩ = some (.int .i64 0) := (blk_cell BK879.out 1).trans rfl
 have hfs30 := blk_frozen BK879.out 1
 have hns30_0 := NB877_879.out
 have hns30_1 := NB878_879.out
 have hns30_3 := NB894_879.out
 have hms30_0 := NB879_877.out
 have hms30_1 := NB879_878.out
 have hms30_3 := NB879_894.out
 have hs31 : w22.cell? ⟨gb879, 2, none⟩ = some (.int .i64 0) := (blk_cell BK879.out 2).trans rfl
 have hfs31 := blk_frozen BK879.out 2
 have hns31_0 := NB877_879.out
 have hns31_1 := NB878_879.out
 have hns31_3 := NB894_879.out
 have hms31_0 := NB879_877.out
 have hms31_1 := NB879_878.out
 have hms31_3 := NB879_894.out
 refine skip_ (w1 := ?_) (by rfl) rfl ?_ ?_
 rotate_left
 ·go_simp
  rfl
 refine hK.out _ _ ⟨(Z.f3 NB894_879.out (hHeld.1)), (Z.f3 NB894_879.out (hHeld.2.1)), (Z.f3 NB894_879.out (hHeld.2.2))⟩ (fun hHeld => ?_)
 clear hK K
 refine done_ (done_of HT_.out (by kernel_rfl)) ?_
 try go_wp2
 refine bodyPost_ret (results_list (rs := [.cell 2 46, .tmp 3, .cell 4 48, .cell 5 48]) rfl (by simp) (.cell gb877 46 #[.int .i64 t883, .slice Ao17 t884.length co17, .slice Ao18 t887.length co18] (0, 0) _ rfl (by refine blk_far ?_ NB877_879.out _; refine blk_far ?_ NB877_879.out _; refine blk_far ?_ NB877_879.out _; refine blk_far ?_ NB877_878.out _; refine blk_far ?_ NB877_878.out _; refine blk_far ?_ NB877_878.out _; refine blk_put (cs := #[.int .i64 t883, .slice Ao17 t884.length co17, .slice none 0 0]) ?_ 2 _ rfl; refine blk_put (cs := #[.int .i64 t883, .slice none 0 0, .slice none 0 0]) ?_ 1 _ rfl; refine blk_put (cs := #[.int .i64 0, .slice none 0 0, .slice none 0 0]) ?_ 0 _ rfl; exact BK877.out) Try.underlying46 rfl (by kernel_rfl) (.tmp (.cell gb878 48 #[.int .i64 t895, .int .i64 t896, .int .i64 t897] (0, 0) _ rfl (by refine blk_far ?_ NB878_879.out _; refine blk_far ?_ NB878_879.out _; refine blk_far ?_ NB878_879.out _; refine blk_put (cs := #[.int .i64 t895, .int .i64 t896, .int .i64 0]) ?_ 2 _ rfl; refine blk_put (cs := #[.int .i64 t895, .int .i64 0, .int .i64 0]) ?_ 1 _ rfl; refine blk_put (cs := #[.int .i64 0, .int .i64 0, .int .i64 0]) ?_ 0 _ rfl; refine blk_far ?_ NB878_877.out _; refine blk_far ?_ NB878_877.out _; refine blk_far ?_ NB878_877.out _; exact BK878.out) Try.underlying48 rfl (by kernel_rfl) (.cell gb879 48 #[.int .i64 t899, .int .i64 t900, .int .i64 t901] (0, 0) _ rfl (by refine blk_put (cs := #[.int .i64 t899, .int .i64 t900, .int .i64 0]) ?_ 2 _ rfl; refine blk_put (cs := #[.int .i64 t899, .int .i64 0, .int .i64 0]) ?_ 1 _ rfl; refine blk_put (cs := #[.int .i64 0, .int .i64 0, .int .i64 0]) ?_ 0 _ rfl; refine blk_far ?_ NB879_878.out _; refine blk_far ?_ NB879_878.out _; refine blk_far ?_ NB879_878.out _; refine blk_far ?_ NB879_877.out _; refine blk_far ?_ NB879_877.out _; refine blk_far ?_ NB879_877.out _; exact BK879.out) Try.underlying48 rfl (by kernel_rfl) .nil))))) rfl ?_
 exact ⟨_, _, _, by rfl, by exact Kd.R_mono (Kd.R_far (p := ⟨gb879, 2, none⟩) (Kd.R_far (p := ⟨gb879, 1, none⟩) (Kd.R_far (p := ⟨gb879, 0, none⟩) (Kd.R_far (p := ⟨gb878, 2, none⟩) (Kd.R_far (p := ⟨gb878, 1, none⟩) (Kd.R_far (p := ⟨gb878, 0, none⟩) (Kd.R_far (p := ⟨gb877, 2, none⟩) (Kd.R_far (p := ⟨gb877, 1, none⟩) (Kd.R_far (p := ⟨gb877, 0, none⟩) (Kd.R_types (Kd.R_types (Kd.R_types HO886.out BK877.out (by decide)) BK878.out (by decide)) BK879.out (by decide)) (fun _ hk => hk.1.1.2) (.int .i64 t883)) (fun _ hk => hk.1.1.2) (.slice Ao17 t884.length co17)) (fun _ hk => hk.1.1.2) (.slice Ao18 t887.length co18)) (fun _ hk => hk.1.2) (.int .i64 t895)) (fun _ hk => hk.1.2) (.int .i64 t896)) (fun _ hk => hk.1.2) (.int .i64 t897)) (fun _ hk => hk.2) (.int .i64 t899)) (fun _ hk => hk.2) (.int .i64 t900)) (fun _ hk => hk.2) (.int .i64 t901)) (fun _ hk => hk.1.1.1), by exact Kd.R_mono (Kd.R_far (p := ⟨gb879, 2, none⟩) (Kd.R_far (p := ⟨gb879, 1, none⟩) (Kd.R_far (p := ⟨gb879, 0, none⟩) (Kd.R_far (p := ⟨gb878, 2, none⟩) (Kd.R_far (p := ⟨gb878, 1, none⟩) (Kd.R_far (p := ⟨gb878, 0, none⟩) (Kd.R_far (p := ⟨gb877, 2, none⟩) (Kd.R_far (p := ⟨gb877, 1, none⟩) (Kd.R_far (p := ⟨gb877, 0, none⟩) (Kd.R_types (Kd.R_types (Kd.R_types HO889.out BK877.out (by decide)) BK878.out (by decide)) BK879.out (by decide)) (fun _ hk => hk.1.1.2) (.int .i64 t883)) (fun _ hk => hk.1.1.2) (.slice Ao17 t884.length co17)) (fun _ hk => hk.1.1.2) (.slice Ao18 t887.length co18)) (fun _ hk => hk.1.2) (.int .i64 t895)) (fun _ hk => hk.1.2) (.int .i64 t896)) (fun _ hk => hk.1.2) (.int .i64 t897)) (fun _ hk => hk.2) (.int .i64 t899)) (fun _ hk => hk.2) (.int .i64 t900)) (fun _ hk => hk.2) (.int .i64 t901)) (fun _ hk => trivial), by exact Kd.R_mono (Kd.R_far (p := ⟨gb879, 2, none⟩) (Kd.R_far (p := ⟨gb879, 1, none⟩) (Kd.R_far (p := ⟨gb879, 0, none⟩) (Kd.R_far (p := ⟨gb878, 2, none⟩) (Kd.R_far (p := ⟨gb878, 1, none⟩) (Kd.R_far (p := ⟨gb878, 0, none⟩) (Kd.R_far (p := ⟨gb877, 2, none⟩) (Kd.R_far (p := ⟨gb877, 1, none⟩) (Kd.R_far (p := ⟨gb877, 0, none⟩) (Kd.R_types (Kd.R_types (Kd.R_types HO892.out BK877.out (by decide)) BK878.out (by decide)) BK879.out (by decide)) (fun _ hk => hk.1.1.2) (.int .i64 t883)) (fun _ hk => hk.1.1.2) (.slice Ao17 t884.length co17)) (fun _ hk => hk.1.1.2) (.slice Ao18 t887.length co18)) (fun _ hk => hk.1.2) (.int .i64 t895)) (fun _ hk => hk.1.2) (.int .i64 t896)) (fun _ hk => hk.1.2) (.int .i64 t897)) (fun _ hk => hk.2) (.int .i64 t899)) (fun _ hk => hk.2) (.int .i64 t900)) (fun _ hk => hk.2) (.int .i64 t901)) (fun _ hk => hk.1.1.1), by repeat ((with_reducible first | exact HB.out | refine below_set ?_ GE877.out | refine below_set ?_ GE878.out | refine below_set ?_ GE879.out))⟩

end Go.Proofs.Ytojoblllgddckaa.PAll

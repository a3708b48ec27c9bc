/- Walks of functions that laws of this seat reach, in the form of the print. -/
import Derived.Test.YtojoblllgddckaaCAll0
import Derived.Test.YtojoblllgddckaaCAll1
import Derived.Test.YtojoblllgddckaaCAll51
import Derived.Test.YtojoblllgddckaaCAll68
import Derived.Test.YtojoblllgddckaaZ
-- PRINTED
namespace Go.Proofs.Ytojoblllgddckaa.PAll
open Go.RowKit Go.Proofs.YtojoblllgddckaaW.PrintWords Go.Proofs.YtojoblllgddckaaW.PrintLast Go.Proofs.YtojoblllgddckaaW.PrintMore
attribute [local go_sem] max2_int min2_int max_two min_two max_three min_three max_four min_four
set_option linter.unusedVariables false
set_option linter.unusedSimpArgs false

/-! ### spec_DrawValidActs: function 38 -/
def spec_DrawValidActs.f (k : Nat) (l0 : List Int) : Option (Int × List Int × (List (List (S91))) × List Int × (List (S48))) := (spec_l20Open.f l0).bind fun bt996 => ((spec_l20Acted.f k bt996.1 bt996.2).bind fun bt999 => (some (bt999.1, bt999.2.1, bt999.2.2.1, bt999.2.2.2.1, bt999.2.2.2.2.1)))
set_option maxHeartbeats 8000000 in
set_option maxRecDepth 100000 in
theorem spec_DrawValidActs.calls (k : Nat) (A0 : Option Addr) (c0 : Nat) (l0 : List Int) (r1 : Int) (r2 : List Int) (r3 : List (List (S91))) (r4 : List Int) (r5 : List (S48)) (w : World) (hr0 : Kd.C (Kd.int .u8) w A0 l0.length l0) (hc0 : l0.length ≤ c0) (h : spec_DrawValidActs.f k l0 = some (r1, r2, r3, r4, r5)) :
  Calls Try.prog 38 #[.slice A0 l0.length c0] w fun e w' => ∃ v1_ v2_ v3_ v4_ : Value, e = .returned (.tuple #[.agg #[.int .i64 r1, v1_, v2_], v3_, v4_]) ∧ Kd.R (Kd.int .i64) 3 w' w.heap.size (fun k_ => some k_ ≠ (v3_ : Value).ownBlock) v1_ r2 ∧ Kd.R (Kd.slice 91 k91) 56 w' w.heap.size (fun _ => True) v2_ r3 ∧ Kd.R (Kd.int .i64) 3 w' w.heap.size (fun k_ => some k_ ≠ (v1_ : Value).ownBlock) v3_ r4 ∧ Kd.R k48 48 w' w.heap.size (fun _ => True) v4_ r5 ∧ Below w.heap.size w w' := by
 have hu46 := Try.underlying46
 have HR0 := Z.k hr0
 have HC0 := Z.k hc0
 clear hr0 hc0
 have HB := Z.k (Below.refl w.heap.size w)
 have H := h
 clear h
 unfold spec_DrawValidActs.f at H
 replace H := Option.bind_eq_some_iff.mp H
 obtain ⟨⟨t996, t997⟩, A20, H⟩ := H
 try dsimp only at H
 have A2 := Z.k A20
 clear A20
 replace H := Option.bind_eq_some_iff.mp H
 obtain ⟨⟨t999, t1000, t1003, t1006, t1009, t1012⟩, A30, H⟩ := H
 try dsimp only at H
 have A3 := Z.k A30
 clear A30
 simp only [Option.some.injEq, Prod.mk.injEq] at H
 obtain ⟨rfl, rfl, rfl, rfl, rfl⟩ := H
 go_enter Try.func38, Try.ntmps38
 go_wp2_with (first | ((with_reducible refine gate_dst (N := 2) rfl ?_); refine Z.bx #[.int .i64 0, .slice none 0 0, .slice none 0 0] 46 HB ?_; clear HB; intro gb995 w4 BK995 GE995 HB hg hb; have GW995 := GE995; clear hb hg) | ((with_reducible refine gate_callee (f := 49) rfl ?_); refine goesL_ (some 6) rfl rfl Try.func49 (by kernel_rfl) rfl #[.slice A0 l0.length c0] rfl Z.ar ?_; (with_reducible refine (spec_l20Open.calls _ _ l0 t996 t997 w _ ?q1 ?q2 ?q3 A2.out).mono ?_); (case q1 => repeat ((with_reducible exact HB.out))); (case q2 => exact HR0.out); (case q3 => exact HC0.out); rintro e w5 ⟨g998, rfl, hi, hb, hb2⟩; refine ⟨_, rfl, ?_⟩; replace HB := Z.k (hb); have HI998 := Z.k (hi); have NB998_995 := Z.k (IsS106.ne_blk hi (blk_below (g := gb995) (o := .cells #[.int .i64 0, .slice none 0 0, .slice none 0 0] 46 (0, 0)) (Z.bk BK995.out) hb2) (by decide)); have NB995_998 := Z.k (Ne.symm (IsS106.ne_blk hi (blk_below (g := gb995) (o := .cells #[.int .i64 0, .slice none 0 0, .slice none 0 0] 46 (0, 0)) (Z.bk BK995.out) hb2) (by decide))); replace BK995 := Z.k (blk_below (g := gb995) (o := .cells #[.int .i64 0, .slice none 0 0, .slice none 0 0] 46 (0, 0)) (Z.bk BK995.out) hb2); (try clear hb); (try clear hb2); (try clear hi)) | ((with_reducible refine gate_callee (f := 78) rfl ?_); refine goesL_ (some 7) rfl rfl Try.func78 (by kernel_rfl) rfl #[.pointer (some ⟨g998, 0, none⟩)] rfl Z.ar ?_; (with_reducible refine (spec_l20Acted.calls k g998 t996 t997 t999 t1000 t1003 t1006 t1009 t1012 w _ ?q1 ?q2 A3.out).mono ?_); (case q1 => repeat ((with_reducible exact HI998.out))); (case q2 => repeat ((with_reducible exact HB.out))); rintro e w6 ⟨v1001, v1004, v1007, v1010, rfl, ho0, ho1, ho2, ho3, hi, hb, hk⟩; refine ⟨_, rfl, ?_⟩; replace BK995 := Z.k (KeepBut.blk hk (g' := gb995) (o := .cells #[.int .i64 0, .slice none 0 0, .slice none 0 0] 46 (0, 0)) (Z.bk BK995.out) NB995_998.out (by simp)); have HO1002 := Z.k (Kd.R_lower ho0 (below_size (by repeat ((with_reducible exact HB.out))))); have HO1005 := Z.k (Kd.R_lower ho1 (below_size (by repeat ((with_reducible exact HB.out))))); have HO1008 := Z.k (Kd.R_lower ho2 (below_size (by repeat ((with_reducible exact HB.out))))); have HO1011 := Z.k (Kd.R_lower ho3 (below_size (by repeat ((with_reducible exact HB.out))))); replace HB := Z.k (hb); replace HI998 := Z.k (hi); (try clear hb); (try clear hk); (try clear hi); (try clear ho0); (try clear ho1); (try clear ho2); (try clear ho3); have hnb7 := NB995_998.out; have hnc7 := NB998_995.out; have hcz8 := Z.c3 BK995.out; obtain ⟨Ao9, co9, eo9⟩ := Kd.R_slice HO1002.out; subst eo9; obtain ⟨Ao10, co10, eo10⟩ := Kd.R_slice HO1005.out; subst eo10))
 refine bodyPost_ret (results_ctt rfl _ _ gb995 46 #[.int .i64 t999, .slice Ao9 t1000.length co9, .slice Ao10 t1003.length co10] (0, 0) _ rfl (by (with_reducible skip); refine blk_put (cs := #[.int .i64 t999, .slice Ao9 t1000.length co9, .slice none 0 0]) ?_ 2 _ rfl; (with_reducible skip); refine blk_put (cs := #[.int .i64 t999, .slice none 0 0, .slice none 0 0]) ?_ 1 _ rfl; (with_reducible skip); refine blk_put (cs := #[.int .i64 0, .slice none 0 0, .slice none 0 0]) ?_ 0 _ rfl; (with_reducible skip); exact BK995.out) Try.underlying46 rfl (by kernel_rfl)) rfl ?_
 exact ⟨_, _, _, _, by rfl, by (with_reducible skip); exact Kd.R_mono (Kd.R_far (p := ⟨gb995, 2, none⟩) (Kd.R_far (p := ⟨gb995, 1, none⟩) (Kd.R_far (p := ⟨gb995, 0, none⟩) (Kd.R_types HO1002.out BK995.out (by decide)) (fun _ hk => hk.2) (.int .i64 t999)) (fun _ hk => hk.2) (.slice Ao9 t1000.length co9)) (fun _ hk => hk.2) (.slice Ao10 t1003.length co10)) (fun _ hk => hk.1), by (with_reducible skip); exact Kd.R_mono (Kd.R_far (p := ⟨gb995, 2, none⟩) (Kd.R_far (p := ⟨gb995, 1, none⟩) (Kd.R_far (p := ⟨gb995, 0, none⟩) (Kd.R_types HO1005.out BK995.out (by decide)) (fun _ hk => hk.2) (.int .i64 t999)) (fun _ hk => hk.2) (.slice Ao9 t1000.length co9)) (fun _ hk => hk.2) (.slice Ao10 t1003.length co10)) (fun _ hk => trivial), by (with_reducible skip); exact Kd.R_mono (Kd.R_far (p := ⟨gb995, 2, none⟩) (Kd.R_far (p := ⟨gb995, 1, none⟩) (Kd.R_far (p := ⟨gb995, 0, none⟩) (Kd.R_types HO1008.out BK995.out (by decide)) (fun _ hk => hk.2) (.int .i64 t999)) (fun _ hk => hk.2) (.slice Ao9 t1000.length co9)) (fun _ hk => hk.2) (.slice Ao10 t1003.length co10)) (fun _ hk => hk.1), by (with_reducible skip); exact Kd.R_mono (Kd.R_far (p := ⟨gb995, 2, none⟩) (Kd.R_far (p := ⟨gb995, 1, none⟩) (Kd.R_far (p := ⟨gb995, 0, none⟩) (Kd.R_types HO1011.out BK995.out (by decide)) (fun _ hk => hk.2) (.int .i64 t999)) (fun _ hk => hk.2) (.slice Ao9 t1000.length co9)) (fun _ hk => hk.2) (.slice Ao10 t1003.length co10)) (fun _ hk => trivial), by repeat ((with_reducible first | exact HB.out | refine below_set ?_ GE995.out))⟩

end Go.Proofs.Ytojoblllgddckaa.PAll

/- Walks of functions that All reaches, in the form of the print. -/
-- PRINTED
import Derived.Test.YtenjngocdinfmaaCAll2
import Derived.Test.YtenjngocdinfmaaCAll4
namespace Go.Proofs.Ytenjngocdinfmaa.PAll
open Go.RowKit Go.Proofs.YtenjngocdinfmaaW.PrintWords Go.Proofs.YtenjngocdinfmaaW.PrintLast Go.Proofs.YtenjngocdinfmaaW.PrintMore
attribute [local go_sem] max2_int min2_int max_two min_two max_three min_three max_four min_four
set_option linter.unusedVariables false
set_option linter.unusedSimpArgs false

/-! ### spec_l20Term: function 40 -/
mutual
def spec_l20Term.j0 : Nat → Bool → List Int → Int → Int → List Int → Option ((List (S35)) × Int)
 | 0, _, _, _, _, _ => none
 | k + 1, x21, x1000, x1001, x198000, x198001 => if x21 = true then ((some (([(([] : List (S35))), (([(⟨1, 0, 0⟩ : S35)] : List (S35))), (([(⟨0, 3, 7⟩ : S35)] : List (S35))), (([(⟨0, 0, 1⟩ : S35), (⟨0, 0, 1⟩ : S35)] : List (S35)))] : List (List (S35))) : List (List (S35)))).bind fun y212 => ((spec_l20Rd_pick.f k x1000 x1001 4).bind fun bt215 => (if 0 ≤ bt215.1 then (if bt215.1 < (y212.length : Int) then (some (rd_L3 y212 bt215.1, bt215.2)) else (none)) else (none)))) else ((spec_l20Rd_pick.f k x1000 x1001 4).bind fun bt221 => (spec_l20Term.l0 k (([] : List (List (S35)))) (wrap64 (1 + bt221.1)) x1000 bt221.2 x198000 x198001))
def spec_l20Term.l0 : Nat → List (List (S35)) → Int → List Int → Int → Int → List Int → Option ((List (S35)) × Int)
 | 0, _, _, _, _, _, _ => none
 | k + 1, x7, x8, x1000, x1001, x198000, x198001 => if x8 > 0 then ((spec_l20Rd_pick.f k x1000 x1001 (x198001.length : Int)).bind fun bt223 => (if 0 ≤ bt223.1 then (if bt223.1 < (x198001.length : Int) then ((spec_l1Heads.f k (mx (rd x198001 bt223.1) 0)).bind fun t226 => ((spec_l20Rd_pick.f k x1000 bt223.2 (mx t226 1)).bind fun bt227 => (if x7.length < 5864062014805 then (spec_l20Term.l0 k (x7 ++ [(([(⟨0, bt223.1, wrap64 (1 + bt227.1)⟩ : S35)] : List (S35)))]) (wrap64 (x8 - 1)) x1000 bt227.2 x198000 x198001) else (none)))) else (none)) else (none))) else (spec_l20Term.l1 k x7 x1000 x1001)
def spec_l20Term.l1 : Nat → List (List (S35)) → List Int → Int → Option ((List (S35)) × Int)
 | 0, _, _, _ => none
 | k + 1, x7, x1000, x1001 => if (x7.length : Int) > 1 then ((spec_l20Rd_pick.f k x1000 x1001 (wrap64 ((x7.length : Int) - 1))).bind fun bt235 => ((some (([] : List (S35)) : List (S35))).bind fun y237 => (if 0 ≤ bt235.1 then (if bt235.1 < (x7.length : Int) then (if y237.length + (rd_L3 x7 bt235.1).length < 5864062014805 then ((some (y237 ++ (rd_L3 x7 bt235.1) : List (S35))).bind fun y241 => (if 0 ≤ (wrap64 (bt235.1 + 1)) then (if (wrap64 (bt235.1 + 1)) < (x7.length : Int) then (if y241.length + (rd_L3 x7 (wrap64 (bt235.1 + 1))).length < 5864062014805 then ((some (y241 ++ (rd_L3 x7 (wrap64 (bt235.1 + 1))) : List (S35))).bind fun y245 => ((spec_l20Rd_pick.f k x1000 bt235.2 2).bind fun bt248 => (if y245.length < 5864062014805 then ((some (([] : List (List (S35))) : List (List (S35)))).bind fun y253 => (if bt235.1 ≤ (x7.length : Int) then ((some (x7.take (bt235.1 : Int).toNat : List (List (S35)))).bind fun y256 => (if y253.length + y256.length < 5864062014805 then ((some (y253 ++ y256 : List (List (S35)))).bind fun y261 => (if y261.length < 5864062014805 then ((some (y261 ++ [(y245 ++ [(⟨wrap64 (1 + bt248.1), 0, 0⟩ : S35)])] : List (List (S35)))).bind fun y264 => (if 0 ≤ (wrap64 (bt235.1 + 2)) then (if (wrap64 (bt235.1 + 2)) ≤ (x7.length : Int) then ((some (x7.drop ((wrap64 (bt235.1 + 2)) : Int).toNat : List (List (S35)))).bind fun y267 => (if y264.length + y267.length < 5864062014805 then (spec_l20Term.l1 k (y264 ++ y267) x1000 bt248.2) else (none))) else (none)) else (none))) else (none))) else (none))) else (none))) else (none)))) else (none)) else (none)) else (none))) else (none)) else (none)) else (none)))) else (if 0 < (x7.length : Int) then (some (rd_L3 x7 0, x1001)) else (none))
end
def spec_l20Term.f (k : Nat) (s0_0 : List Int) (s0_1 : Int) (a1_0 : Int) (l1_1 : List Int) (a2 : Int) : Option ((List (S35)) × Int) := if (l1_1.length : Int) = 0 then (spec_l20Term.j0 k true s0_0 s0_1 a1_0 l1_1) else ((spec_l20Rd_odd.f k s0_0 s0_1 a2).bind fun bt198 => (spec_l20Term.j0 k bt198.1 s0_0 bt198.2 a1_0 l1_1))
def spec_l20Term.T11 : Bool × List (List Nat × List Nat) := (true, [([], []), ([], []), ([], []), ([1, 2], [1, 2]), ([3], [3]), ([0, 4], [0, 4]), ([], []), ([], []), ([7], [7]), ([6, 8], [6, 8]), ([9], [9]), ([5, 10, 5], [5, 10]), ([], []), ([12, 11], [12]), ([13], [13]), ([14], [14]), ([15], [15]), ([11, 16, 13], [11, 16]), ([17, 17, 0, 1, 2, 3, 4, 5, 6, 7, 8, 9, 10, 11, 12, 13, 14, 15, 16, 17], [17])])
def spec_l20Term.B11 : List Nat := [0, 0, 0, 6, 14, 31, 0, 0, 128, 448, 960, 2047, 0, 8191, 16383, 32767, 65535, 131071, 262143]
theorem spec_l20Term.tab11 : rtab .any (opsOf Try.f40 11) = spec_l20Term.T11 := by kernel_rfl
theorem spec_l20Term.bits11 : waitsOk spec_l20Term.T11.2 spec_l20Term.B11 = true := by kernel_rfl
set_option maxHeartbeats 8000000 in
set_option maxRecDepth 100000 in
theorem spec_l20Term.calls (k : Nat) (g : Nat) (s0_0 : List Int) (s0_1 : Int) (a1_0 : Int) (A1_1 : Option Addr) (c1_1 : Nat) (l1_1 : List Int) (a2 : Int) (r1 : List (S35)) (r2 : Int) (w0 w : World) (hI : IsS56 w0 w g s0_0 s0_1) (hB : Below w0.heap.size w0 w) (hr1_1 : Kd.C (Kd.int .i64) w A1_1 l1_1.length l1_1) (hc1_1 : l1_1.length ≤ c1_1) (hf1_1 : ∀ ad, A1_1 = some ad → 0 < l1_1.length → ad.block ≠ g) (h : spec_l20Term.f k s0_0 s0_1 a1_0 l1_1 a2 = some (r1, r2)) :
  Calls Try.prog 40 #[.pointer (some ⟨g, 0, none⟩), .agg #[.int .i64 a1_0, .slice A1_1 l1_1.length c1_1], .int .i64 a2] w fun e w' => ∃ v0_ : Value, e = .returned (v0_) ∧ Kd.V k35 35 w' w.heap.size (fun k_ => (w.heap.size ≤ k_)) v0_ r1 ∧ IsS56 w0 w' g s0_0 r2 ∧ Below w0.heap.size w0 w' ∧ KeepBut w w' g none := by
 have hu25 := Try.underlying25
 have hu35 := Try.underlying35
 have HR1_1 := Aside0.mk hr1_1
 have HC1_1 := Aside0.mk hc1_1
 clear hr1_1 hc1_1
 have HI0 := Aside0.mk hI
 have HK := Aside0.mk (KeepBut.refl w g none)
 have HL := Aside0.mk hB.size
 clear hI
 have HW0 := Aside0.mk hB.size
 have HB := Aside0.mk hB
 clear hB
 have H := h
 clear h
 unfold spec_l20Term.f at H
 have HC4 := Aside0.mk H
 clear H
 go_enter Try.func40, Try.ntmps40
 go_upto_region 1 with (first | ((with_reducible refine gate_dst (N := 4) rfl ?_); refine box_event ?hg (N := 4) ?hd (cs := #[.int .i64 a1_0, .slice A1_1 l1_1.length c1_1]) (t := 25) ?hr ?_; (case hd | hg => rfl); (case hr => first | (go_simp; done) | (go_simp; rfl)); intro gb197 hg w5 hbox hb; replace HB := Aside0.mk (below_step (by repeat (first | (with_reducible first | exact HB.out | apply below_alloc | apply pw_below_drewN | apply below_drew1 | refine below_set ?_ (IsS56.ge HI0.out)) | exact HB.out)) hb); have BK197 := Aside0.mk (hbox); have GW197 := Aside0.mk ((by rw [hg]; exact (keep_size (w := w) (g := g) (row := none) (by repeat (first | (with_reducible first | exact HK.out | apply KeepBut.set_ | apply keep_drewN | apply keep_drew | apply keep_alloc) | exact HK.out))) : w.heap.size ≤ gb197)); have GE197 := Aside0.mk ((Nat.le_trans HW0.out (by rw [hg]; exact (keep_size (w := w) (g := g) (row := none) (by repeat (first | (with_reducible first | exact HK.out | apply KeepBut.set_ | apply keep_drewN | apply keep_drew | apply keep_alloc) | exact HK.out))) : w.heap.size ≤ gb197) : w0.heap.size ≤ gb197)); replace HK := Aside0.mk (KeepBut.trans (by repeat (first | (with_reducible first | exact HK.out | apply KeepBut.set_ | apply keep_drewN | apply keep_drew | apply keep_alloc) | exact HK.out)) (KeepBut.of_below hb g none) (.inl rfl)); have NB0_197 := Aside0.mk ((by rw [hg]; exact Nat.ne_of_lt (IsS56.lt (show IsS56 w0 _ g s0_0 s0_1 from by repeat (first | (with_reducible first | exact HI0.out | apply IsS56.alloc | apply IsS56.drewN | apply IsS56.drew | apply IsS56.set_1) | exact HI0.out))) : g ≠ gb197)); have NB197_0 := Aside0.mk ((by rw [hg]; exact Nat.ne_of_gt (IsS56.lt (show IsS56 w0 _ g s0_0 s0_1 from by repeat (first | (with_reducible first | exact HI0.out | apply IsS56.alloc | apply IsS56.drewN | apply IsS56.drew | apply IsS56.set_1) | exact HI0.out))) : gb197 ≠ g)); replace HI0 := Aside0.mk (IsS56.below (by repeat (first | (with_reducible first | exact HI0.out | apply IsS56.alloc | apply IsS56.drewN | apply IsS56.drew | apply IsS56.set_1) | exact HI0.out)) hb); clear hb hbox hg))
 (try simp only [Act.put, List.setIfInBounds_toArray, List.set_cons_zero, List.set_cons_succ])
 go_cut [21] (fun v21 wc => ∃ (kq : Nat) (x21_3 : Bool) (x1001_3 : Int), v21 = .bool x21_3 ∧ Aside0 (spec_l20Term.j0 kq x21_3 s0_0 x1001_3 a1_0 l1_1 = some (r1, r2)) ∧ Aside0 (kq ≤ k) ∧ Aside0 (wc.heap[gb197]? = some (.cells #[.int .i64 a1_0, (.slice A1_1 l1_1.length c1_1)] 25 (0, 0))) ∧ Aside0 (IsS56 w0 wc g s0_0 x1001_3) ∧ Aside0 (KeepBut w wc g none) ∧ Aside0 (Below w0.heap.size w0 wc))
 case first =>
  have H := HC4.out
  clear HC4
  by_cases c6 : (l1_1.length : Int) = 0
  ·rw [if_pos c6] at H
   have c6b0 : ((l1_1.length : Int) == 0) = true := beq_iff_eq.mpr c6
   have c6b1 : ((l1_1.length : Int) != 0) = false := bne_eq_false_iff_eq.mpr c6
   clear c6
   (first | rw [c6b0] | (simp only [i64_w, i32_w]; rw [c6b0]) | skip)
   have H' := Aside0.mk H
   clear H
   have hnb7 := NB197_0.out
   have hnc7 := NB0_197.out
   have hcz8 := Z.c2 BK197.out
   go_wp2
   go_meet
   case rel => exact ⟨_, (true), (s0_1), (by first | rfl | (simp; done) | (simp [*]; done)), H', ⟨by first | omega | exact Nat.le_refl _⟩, ⟨by (with_reducible repeat (first | refine blk_drewN ?_ _ | refine blk_drew ?_ | refine blk_alloc ?_ _)); exact BK197.out⟩, ⟨by repeat (first | (with_reducible first | exact HI0.out | apply IsS56.alloc | apply IsS56.drewN | apply IsS56.drew | apply IsS56.set_1 | refine IsS56.far ?_ NB0_197.out _) | exact HI0.out)⟩, ⟨by repeat (first | (with_reducible first | exact HK.out | apply KeepBut.set_ | apply keep_drewN | apply keep_drew | apply keep_alloc | refine keep_far ?_ GW197.out _) | exact HK.out)⟩, ⟨by repeat (first | (with_reducible first | exact HB.out | apply below_alloc | apply pw_below_drewN | apply below_drew1 | refine below_set ?_ (IsS56.ge HI0.out) | refine below_set ?_ GE197.out) | exact HB.out)⟩⟩
  ·rw [if_neg c6] at H
   have c6b0 : ((l1_1.length : Int) == 0) = false := beq_eq_false_iff_ne.mpr c6
   have c6b1 : ((l1_1.length : Int) != 0) = true := bne_iff_ne.mpr c6
   have c6b2 : ¬ (l1_1 = []) := fun h_ => c6 (by rw [h_]; rfl)
   (first | rw [c6b0] | (simp only [i64_w, i32_w]; rw [c6b0]) | skip)
   replace H := Option.bind_eq_some_iff.mp H
   obtain ⟨⟨t198, t199⟩, A90, H⟩ := H
   try dsimp only at H
   have A9 := Aside0.mk A90
   clear A90
   have H' := Aside0.mk H
   clear H
   have hnb10 := NB197_0.out
   have hnc10 := NB0_197.out
   have hcz11 := Z.c2 BK197.out
   go_wp2_with (first | (go_at_call 38; (with_reducible refine (spec_l20Rd_odd.calls k g s0_0 s0_1 a2 t198 t199 w0 _ ?q1 ?q2 A9.out).mono ?_); (case q1 => repeat (first | (with_reducible first | exact HI0.out | apply IsS56.alloc | apply IsS56.drewN | apply IsS56.drew | apply IsS56.set_1 | refine IsS56.far ?_ NB0_197.out _) | exact HI0.out)); (case q2 => repeat (first | (with_reducible first | exact HB.out | apply below_alloc | apply pw_below_drewN | apply below_drew1 | refine below_set ?_ (IsS56.ge HI0.out) | refine below_set ?_ GE197.out) | exact HB.out)); rintro e w12 ⟨rfl, hi, hb, hk⟩; replace BK197 := Aside0.mk (KeepBut.blk hk (g' := gb197) (o := .cells #[.int .i64 a1_0, .slice A1_1 l1_1.length c1_1] 25 (0, 0)) (Z.bk BK197.out) NB197_0.out (by simp)); replace HK := Aside0.mk (KeepBut.trans (by repeat (first | (with_reducible first | exact HK.out | apply KeepBut.set_ | apply keep_drewN | apply keep_drew | apply keep_alloc | refine keep_far ?_ GW197.out _) | exact HK.out)) hk (.inl rfl)); replace HB := Aside0.mk (hb); replace HI0 := Aside0.mk (hi); (try clear hb); (try clear hb2); (try clear hk); (try clear hi)))
   go_meet
   case rel => exact ⟨_, (t198), (t199), (by first | rfl | (simp; done) | (simp [*]; done)), H', ⟨by first | omega | exact Nat.le_refl _⟩, ⟨by (with_reducible repeat (first | refine blk_drewN ?_ _ | refine blk_drew ?_ | refine blk_alloc ?_ _)); exact BK197.out⟩, ⟨by repeat (first | (with_reducible first | exact HI0.out | apply IsS56.alloc | apply IsS56.drewN | apply IsS56.drew | apply IsS56.set_1 | refine IsS56.far ?_ NB0_197.out _) | exact HI0.out)⟩, ⟨by repeat (first | (with_reducible first | exact HK.out | apply KeepBut.set_ | apply keep_drewN | apply keep_drew | apply keep_alloc | refine keep_far ?_ GW197.out _) | exact HK.out)⟩, ⟨by repeat (first | (with_reducible first | exact HB.out | apply below_alloc | apply pw_below_drewN | apply below_drew1 | refine below_set ?_ (IsS56.ge HI0.out) | refine below_set ?_ GE197.out) | exact HB.out)⟩⟩
 case rest =>
  clear HC4
  try clear c1
  try clear p2
  try clear c4
  try clear c6
  try clear c6b0
  try clear c6b1
  try clear c6b2
  try clear c7
  try clear c10
  try clear hcz11_0
  try clear hcz11_1
  try clear hcz8_0
  try clear hcz8_1
  try clear hfz11_0
  try clear hfz11_1
  try clear hfz8_0
  try clear hfz8_1
  obtain ⟨kq, x21_3, x1001_3, rfl, HA, HJ3, BK197, HI0, HK, HB⟩ := hcut
  cases kq with
  | zero => exact absurd HA.out (by simp [spec_l20Term.j0])
  | succ kj3 =>
   have H := HA.out
   clear HA
   simp only [spec_l20Term.j0] at H
   by_cases c13 : x21_3 = true
   ·subst c13
    rw [if_pos rfl] at H
    obtain ⟨y200, hy200⟩ : ∃ y_ : List (S35), y_ = (([] : List (S35))) := ⟨_, rfl⟩
    replace H : ((some (([y200, (([(⟨1, 0, 0⟩ : S35)] : List (S35))), (([(⟨0, 3, 7⟩ : S35)] : List (S35))), (([(⟨0, 0, 1⟩ : S35), (⟨0, 0, 1⟩ : S35)] : List (S35)))] : List (List (S35))) : List (List (S35)))).bind fun y212 => ((spec_l20Rd_pick.f kj3 s0_0 x1001_3 4).bind fun bt215 => (if 0 ≤ bt215.1 then (if bt215.1 < (y212.length : Int) then (some (rd_L3 y212 bt215.1, bt215.2)) else (none)) else (none)))) = some (r1, r2) := by first | (rw [hy200]; with_reducible exact H) | (have H2_ := (Option.bind_some _ _).symm.trans H; rw [hy200]; with_reducible exact H2_) | (have H2_ := (Option.bind_some _ _).symm.trans H; with_reducible exact H2_) | with_reducible exact H | (rw [hy200]; exact H) | exact H
    have Ny200 := Aside0.mk hy200
    clear hy200
    obtain ⟨y203, hy203⟩ : ∃ y_ : List (S35), y_ = (([(⟨1, 0, 0⟩ : S35)] : List (S35))) := ⟨_, rfl⟩
    replace H : ((some (([y200, y203, (([(⟨0, 3, 7⟩ : S35)] : List (S35))), (([(⟨0, 0, 1⟩ : S35), (⟨0, 0, 1⟩ : S35)] : List (S35)))] : List (List (S35))) : List (List (S35)))).bind fun y212 => ((spec_l20Rd_pick.f kj3 s0_0 x1001_3 4).bind fun bt215 => (if 0 ≤ bt215.1 then (if bt215.1 < (y212.length : Int) then (some (rd_L3 y212 bt215.1, bt215.2)) else (none)) else (none)))) = some (r1, r2) := by first | (rw [hy203]; with_reducible exact H) | (have H2_ := (Option.bind_some _ _).symm.trans H; rw [hy203]; with_reducible exact H2_) | (have H2_ := (Option.bind_some _ _).symm.trans H; with_reducible exact H2_) | with_reducible exact H | (rw [hy203]; exact H) | exact H
    have Ny203 := Aside0.mk hy203
    clear hy203
    obtain ⟨y206, hy206⟩ : ∃ y_ : List (S35), y_ = (([(⟨0, 3, 7⟩ : S35)] : List (S35))) := ⟨_, rfl⟩
    replace H : ((some (([y200, y203, y206, (([(⟨0, 0, 1⟩ : S35), (⟨0, 0, 1⟩ : S35)] : List (S35)))] : List (List (S35))) : List (List (S35)))).bind fun y212 => ((spec_l20Rd_pick.f kj3 s0_0 x1001_3 4).bind fun bt215 => (if 0 ≤ bt215.1 then (if bt215.1 < (y212.length : Int) then (some (rd_L3 y212 bt215.1, bt215.2)) else (none)) else (none)))) = some (r1, r2) := by first | (rw [hy206]; with_reducible exact H) | (have H2_ := (Option.bind_some _ _).symm.trans H; rw [hy206]; with_reducible exact H2_) | (have H2_ := (Option.bind_some _ _).symm.trans H; with_reducible exact H2_) | with_reducible exact H | (rw [hy206]; exact H) | exact H
    have Ny206 := Aside0.mk hy206
    clear hy206
    obtain ⟨y209, hy209⟩ : ∃ y_ : List (S35), y_ = (([(⟨0, 0, 1⟩ : S35), (⟨0, 0, 1⟩ : S35)] : List (S35))) := ⟨_, rfl⟩
    replace H : ((some (([y200, y203, y206, y209] : List (List (S35))) : List (List (S35)))).bind fun y212 => ((spec_l20Rd_pick.f kj3 s0_0 x1001_3 4).bind fun bt215 => (if 0 ≤ bt215.1 then (if bt215.1 < (y212.length : Int) then (some (rd_L3 y212 bt215.1, bt215.2)) else (none)) else (none)))) = some (r1, r2) := by first | (rw [hy209]; with_reducible exact H) | (have H2_ := (Option.bind_some _ _).symm.trans H; rw [hy209]; with_reducible exact H2_) | (have H2_ := (Option.bind_some _ _).symm.trans H; with_reducible exact H2_) | with_reducible exact H | (rw [hy209]; exact H) | exact H
    have Ny209 := Aside0.mk hy209
    clear hy209
    obtain ⟨y212, hy212⟩ : ∃ y_ : List (List (S35)), y_ = (([y200, y203, y206, y209] : List (List (S35)))) := ⟨_, rfl⟩
    replace H : ((spec_l20Rd_pick.f kj3 s0_0 x1001_3 4).bind fun bt215 => (if 0 ≤ bt215.1 then (if bt215.1 < (y212.length : Int) then (some (rd_L3 y212 bt215.1, bt215.2)) else (none)) else (none))) = some (r1, r2) := by first | (rw [hy212]; with_reducible exact H) | (have H2_ := (Option.bind_some _ _).symm.trans H; rw [hy212]; with_reducible exact H2_) | (have H2_ := (Option.bind_some _ _).symm.trans H; with_reducible exact H2_) | with_reducible exact H | (rw [hy212]; exact H) | exact H
    have Ny212 := Aside0.mk hy212
    clear hy212
    replace H := Option.bind_eq_some_iff.mp H
    obtain ⟨⟨t215, t216⟩, A140, H⟩ := H
    try dsimp only at H
    have A14 := Aside0.mk A140
    clear A140
    obtain ⟨c15, H⟩ := Z.ifp H
    have c15b0 : decide (0 ≤ t215) = true := decide_eq_true c15
    clear c15
    obtain ⟨c16, H⟩ := Z.ifp H
    have c16b0 : decide (t215 < (y212.length : Int)) = true := decide_eq_true c16
    clear c16
    simp only [Option.some.injEq, Prod.mk.injEq] at H
    obtain ⟨rfl, rfl⟩ := H
    go_wp2_with (first | ((with_reducible refine gate_dst (N := 22) rfl ?_); refine Kd.R_lit k35 _ 35 ?hg (N := 22) ?hd (xs := ([] : List (S35))) (inner := []) (ok := fun _ => True) (okp := fun _ => True) ?hr ?hp (fun _ hk => hk) trivial (Below.refl _ _) (Nat.le_refl _) (by simp) ?_; (case hd | hg => rfl); (case hr => first | (go_simp; done) | (go_simp; rfl)); (case hp => exact (Reps.none _ _)); intro v201 w17 ho18 hb hg_ hnew_; clear hg_ hnew_; (first | rw [← Ny200.out] at ho18 | (simp only [Int.reduceToNat] at ho18; rw [← Ny200.out] at ho18)); have HO202 := Aside0.mk (Kd.R_lower (Kd.R_newM (M := fun k_ => (w.heap.size ≤ k_)) ho18 (keep_size (w := w) (g := g) (row := none) (by repeat (first | (with_reducible first | exact HK.out | apply KeepBut.set_ | apply keep_drewN | apply keep_drew | apply keep_alloc | refine keep_far ?_ GW197.out _) | exact HK.out))) (fun k_ h_ => h_)) (keep_size (w := w) (g := g) (row := none) (by repeat (first | (with_reducible first | exact HK.out | apply KeepBut.set_ | apply keep_drewN | apply keep_drew | apply keep_alloc | refine keep_far ?_ GW197.out _) | exact HK.out)))); replace BK197 := Z.bb BK197 hb; replace HK := Aside0.mk (KeepBut.trans (by repeat (first | (with_reducible first | exact HK.out | apply KeepBut.set_ | apply keep_drewN | apply keep_drew | apply keep_alloc | refine keep_far ?_ GW197.out _) | exact HK.out)) (KeepBut.of_below hb g none) (.inl rfl)); replace HB := Aside0.mk (below_step (by repeat (first | (with_reducible first | exact HB.out | apply below_alloc | apply pw_below_drewN | apply below_drew1 | refine below_set ?_ (IsS56.ge HI0.out) | refine below_set ?_ GE197.out) | exact HB.out)) hb); replace HI0 := Aside0.mk (IsS56.below (by repeat (first | (with_reducible first | exact HI0.out | apply IsS56.alloc | apply IsS56.drewN | apply IsS56.drew | apply IsS56.set_1 | refine IsS56.far ?_ NB0_197.out _) | exact HI0.out)) hb); clear hb ho18) | ((with_reducible refine gate_dst (N := 24) rfl ?_); refine Kd.R_lit k35 _ 35 ?hg (N := 24) ?hd (xs := ([(⟨1, 0, 0⟩ : S35)] : List (S35))) (inner := [.int .i64 1, .int .i64 0, .int .i64 0]) (ok := fun _ => True) (okp := fun _ => True) ?hr ?hp (fun _ hk => hk) trivial (Below.refl _ _) (Nat.le_refl _) (by simp) ?_; (case hd | hg => rfl); (case hr => first | (go_simp; done) | (go_simp; rfl)); (case hp => exact (Reps.c3 (show Kd.M k35 _ _ _ (⟨1, 0, 0⟩ : S35) [.int .i64 1, .int .i64 0, .int .i64 0] from (k35_mkM _ _ _ (⟨1, 0, 0⟩ : S35) )) (Reps.none _ _))); intro v204 w19 ho20 hb hg_ hnew_; clear hg_ hnew_; (first | rw [← Ny203.out] at ho20 | (simp only [Int.reduceToNat] at ho20; rw [← Ny203.out] at ho20)); have HO205 := Aside0.mk (Kd.R_lower (Kd.R_new' (Kd.R_newM (M := fun k_ => (w.heap.size ≤ k_)) ho20 (keep_size (w := w) (g := g) (row := none) (by repeat (first | (with_reducible first | exact HK.out | apply KeepBut.set_ | apply keep_drewN | apply keep_drew | apply keep_alloc | refine keep_far ?_ GW197.out _) | exact HK.out))) (fun k_ h_ => h_)) (Kd.R_lt (by (with_reducible repeat (first | apply Kd.R_alloc | apply Kd.R_drewN | apply Kd.R_drew)); exact HO202.out))) (keep_size (w := w) (g := g) (row := none) (by repeat (first | (with_reducible first | exact HK.out | apply KeepBut.set_ | apply keep_drewN | apply keep_drew | apply keep_alloc | refine keep_far ?_ GW197.out _) | exact HK.out)))); replace HO202 := Aside0.mk (Kd.R_elder' (by (with_reducible repeat (first | apply Kd.R_alloc | apply Kd.R_drewN | apply Kd.R_drew)); exact HO202.out) (Kd.R_base ho20) hb); replace BK197 := Z.bb BK197 hb; replace HK := Aside0.mk (KeepBut.trans (by repeat (first | (with_reducible first | exact HK.out | apply KeepBut.set_ | apply keep_drewN | apply keep_drew | apply keep_alloc | refine keep_far ?_ GW197.out _) | exact HK.out)) (KeepBut.of_below hb g none) (.inl rfl)); replace HB := Aside0.mk (below_step (by repeat (first | (with_reducible first | exact HB.out | apply below_alloc | apply pw_below_drewN | apply below_drew1 | refine below_set ?_ (IsS56.ge HI0.out) | refine below_set ?_ GE197.out) | exact HB.out)) hb); replace HI0 := Aside0.mk (IsS56.below (by repeat (first | (with_reducible first | exact HI0.out | apply IsS56.alloc | apply IsS56.drewN | apply IsS56.drew | apply IsS56.set_1 | refine IsS56.far ?_ NB0_197.out _) | exact HI0.out)) hb); clear hb ho20) | ((with_reducible refine gate_dst (N := 26) rfl ?_); refine Kd.R_lit k35 _ 35 ?hg (N := 26) ?hd (xs := ([(⟨0, 3, 7⟩ : S35)] : List (S35))) (inner := [.int .i64 0, .int .i64 3, .int .i64 7]) (ok := fun _ => True) (okp := fun _ => True) ?hr ?hp (fun _ hk => hk) trivial (Below.refl _ _) (Nat.le_refl _) (by simp) ?_; (case hd | hg => rfl); (case hr => first | (go_simp; done) | (go_simp; rfl)); (case hp => exact (Reps.c3 (show Kd.M k35 _ _ _ (⟨0, 3, 7⟩ : S35) [.int .i64 0, .int .i64 3, .int .i64 7] from (k35_mkM _ _ _ (⟨0, 3, 7⟩ : S35) )) (Reps.none _ _))); intro v207 w21 ho22 hb hg_ hnew_; clear hg_ hnew_; (first | rw [← Ny206.out] at ho22 | (simp only [Int.reduceToNat] at ho22; rw [← Ny206.out] at ho22)); have HO208 := Aside0.mk (Kd.R_lower (Kd.R_new' (Kd.R_new' (Kd.R_newM (M := fun k_ => (w.heap.size ≤ k_)) ho22 (keep_size (w := w) (g := g) (row := none) (by repeat (first | (with_reducible first | exact HK.out | apply KeepBut.set_ | apply keep_drewN | apply keep_drew | apply keep_alloc | refine keep_far ?_ GW197.out _) | exact HK.out))) (fun k_ h_ => h_)) (Kd.R_lt (by (with_reducible repeat (first | apply Kd.R_alloc | apply Kd.R_drewN | apply Kd.R_drew)); exact HO202.out))) (Kd.R_lt (by (with_reducible repeat (first | apply Kd.R_alloc | apply Kd.R_drewN | apply Kd.R_drew)); exact HO205.out))) (keep_size (w := w) (g := g) (row := none) (by repeat (first | (with_reducible first | exact HK.out | apply KeepBut.set_ | apply keep_drewN | apply keep_drew | apply keep_alloc | refine keep_far ?_ GW197.out _) | exact HK.out)))); replace HO202 := Aside0.mk (Kd.R_elder' (by (with_reducible repeat (first | apply Kd.R_alloc | apply Kd.R_drewN | apply Kd.R_drew)); exact HO202.out) (Kd.R_base ho22) hb); replace HO205 := Aside0.mk (Kd.R_elder' (by (with_reducible repeat (first | apply Kd.R_alloc | apply Kd.R_drewN | apply Kd.R_drew)); exact HO205.out) (Kd.R_base ho22) hb); replace BK197 := Z.bb BK197 hb; replace HK := Aside0.mk (KeepBut.trans (by repeat (first | (with_reducible first | exact HK.out | apply KeepBut.set_ | apply keep_drewN | apply keep_drew | apply keep_alloc | refine keep_far ?_ GW197.out _) | exact HK.out)) (KeepBut.of_below hb g none) (.inl rfl)); replace HB := Aside0.mk (below_step (by repeat (first | (with_reducible first | exact HB.out | apply below_alloc | apply pw_below_drewN | apply below_drew1 | refine below_set ?_ (IsS56.ge HI0.out) | refine below_set ?_ GE197.out) | exact HB.out)) hb); replace HI0 := Aside0.mk (IsS56.below (by repeat (first | (with_reducible first | exact HI0.out | apply IsS56.alloc | apply IsS56.drewN | apply IsS56.drew | apply IsS56.set_1 | refine IsS56.far ?_ NB0_197.out _) | exact HI0.out)) hb); clear hb ho22) | ((with_reducible refine gate_dst (N := 29) rfl ?_); refine Kd.R_lit k35 _ 35 ?hg (N := 29) ?hd (xs := ([(⟨0, 0, 1⟩ : S35), (⟨0, 0, 1⟩ : S35)] : List (S35))) (inner := [.int .i64 0, .int .i64 0, .int .i64 1, .int .i64 0, .int .i64 0, .int .i64 1]) (ok := fun _ => True) (okp := fun _ => True) ?hr ?hp (fun _ hk => hk) trivial (Below.refl _ _) (Nat.le_refl _) (by simp) ?_; (case hd | hg => rfl); (case hr => first | (go_simp; done) | (go_simp; rfl)); (case hp => exact (Reps.c3 (show Kd.M k35 _ _ _ (⟨0, 0, 1⟩ : S35) [.int .i64 0, .int .i64 0, .int .i64 1] from (k35_mkM _ _ _ (⟨0, 0, 1⟩ : S35) )) (Reps.c3 (show Kd.M k35 _ _ _ (⟨0, 0, 1⟩ : S35) [.int .i64 0, .int .i64 0, .int .i64 1] from (k35_mkM _ _ _ (⟨0, 0, 1⟩ : S35) )) (Reps.none _ _)))); intro v210 w23 ho24 hb hg_ hnew_; clear hg_ hnew_; (first | rw [← Ny209.out] at ho24 | (simp only [Int.reduceToNat] at ho24; rw [← Ny209.out] at ho24)); have HO211 := Aside0.mk (Kd.R_lower (Kd.R_new' (Kd.R_new' (Kd.R_new' (Kd.R_newM (M := fun k_ => (w.heap.size ≤ k_)) ho24 (keep_size (w := w) (g := g) (row := none) (by repeat (first | (with_reducible first | exact HK.out | apply KeepBut.set_ | apply keep_drewN | apply keep_drew | apply keep_alloc | refine keep_far ?_ GW197.out _) | exact HK.out))) (fun k_ h_ => h_)) (Kd.R_lt (by (with_reducible repeat (first | apply Kd.R_alloc | apply Kd.R_drewN | apply Kd.R_drew)); exact HO202.out))) (Kd.R_lt (by (with_reducible repeat (first | apply Kd.R_alloc | apply Kd.R_drewN | apply Kd.R_drew)); exact HO205.out))) (Kd.R_lt (by (with_reducible repeat (first | apply Kd.R_alloc | apply Kd.R_drewN | apply Kd.R_drew)); exact HO208.out))) (keep_size (w := w) (g := g) (row := none) (by repeat (first | (with_reducible first | exact HK.out | apply KeepBut.set_ | apply keep_drewN | apply keep_drew | apply keep_alloc | refine keep_far ?_ GW197.out _) | exact HK.out)))); replace HO202 := Aside0.mk (Kd.R_elder' (by (with_reducible repeat (first | apply Kd.R_alloc | apply Kd.R_drewN | apply Kd.R_drew)); exact HO202.out) (Kd.R_base ho24) hb); replace HO205 := Aside0.mk (Kd.R_elder' (by (with_reducible repeat (first | apply Kd.R_alloc | apply Kd.R_drewN | apply Kd.R_drew)); exact HO205.out) (Kd.R_base ho24) hb); replace HO208 := Aside0.mk (Kd.R_elder' (by (with_reducible repeat (first | apply Kd.R_alloc | apply Kd.R_drewN | apply Kd.R_drew)); exact HO208.out) (Kd.R_base ho24) hb); replace BK197 := Z.bb BK197 hb; replace HK := Aside0.mk (KeepBut.trans (by repeat (first | (with_reducible first | exact HK.out | apply KeepBut.set_ | apply keep_drewN | apply keep_drew | apply keep_alloc | refine keep_far ?_ GW197.out _) | exact HK.out)) (KeepBut.of_below hb g none) (.inl rfl)); replace HB := Aside0.mk (below_step (by repeat (first | (with_reducible first | exact HB.out | apply below_alloc | apply pw_below_drewN | apply below_drew1 | refine below_set ?_ (IsS56.ge HI0.out) | refine below_set ?_ GE197.out) | exact HB.out)) hb); replace HI0 := Aside0.mk (IsS56.below (by repeat (first | (with_reducible first | exact HI0.out | apply IsS56.alloc | apply IsS56.drewN | apply IsS56.drew | apply IsS56.set_1 | refine IsS56.far ?_ NB0_197.out _) | exact HI0.out)) hb); clear hb ho24; obtain ⟨Ao25, co25, eo25⟩ := Kd.R_slice HO202.out; subst eo25; obtain ⟨Ao26, co26, eo26⟩ := Kd.R_slice HO205.out; subst eo26; obtain ⟨Ao27, co27, eo27⟩ := Kd.R_slice HO208.out; subst eo27; obtain ⟨Ao28, co28, eo28⟩ := Kd.R_slice HO211.out; subst eo28) | ((with_reducible refine gate_dst (N := 30) rfl ?_); refine Kd.N_lit (Kd.slice 35 k35) _ 26 ?hg (N' := 30) ?hd (xs := ([y200, y203, y206, y209] : List (List (S35)))) (inner := [.slice Ao25 y200.length co25, .slice Ao26 y203.length co26, .slice Ao27 y206.length co27, .slice Ao28 y209.length co28]) (ok := (fun k_ => (w.heap.size ≤ k_) ∧ k_ ≠ gb197 ∧ k_ ≠ g)) (okp := (fun k_ => (w.heap.size ≤ k_) ∧ k_ ≠ gb197 ∧ k_ ≠ g)) ?hr ?hp (fun _ hk => hk) ((show ∀ k_, w23.heap.size ≤ k_ → (fun k_ => (w.heap.size ≤ k_) ∧ k_ ≠ gb197 ∧ k_ ≠ g) k_ from fun k_ hk => ⟨(Nat.le_trans (keep_size (w := w) (g := g) (row := none) (by repeat (first | (with_reducible first | exact HK.out | apply KeepBut.set_ | apply keep_drewN | apply keep_drew | apply keep_alloc | refine keep_far ?_ GW197.out _) | exact HK.out))) hk), Kd.freshB (g := gb197) (o := .cells #[.int .i64 a1_0, .slice A1_1 l1_1.length c1_1] 25 (0, 0)) (Z.bk BK197.out) k_ hk, IsS56.fresh (by repeat (first | (with_reducible first | exact HI0.out | apply IsS56.alloc | apply IsS56.drewN | apply IsS56.drew | apply IsS56.set_1 | refine IsS56.far ?_ NB0_197.out _) | exact HI0.out)) k_ hk⟩) _ (Nat.le_refl _)) (Below.refl _ _) (Nat.le_refl _) (by simp) ?_; (case hd | hg => rfl); (case hr => first | (go_simp; done) | (go_simp; rfl)); (case hp => exact (Reps.one (show Kd.FK (Kd.slice 35 k35) _ _ y200 [.slice Ao25 y200.length co25] from (Kd.FK_slice_mk (Kd.R_reads' (Kd.R_mono (ok' := (fun k_ => (w.heap.size ≤ k_) ∧ k_ ≠ gb197 ∧ k_ ≠ g)) (IsS56.apart HI0.out (Kd.R_types (HO202.out) BK197.out (by decide)) (by decide)) (fun k_ hk => ⟨hk.1.1.1.1.1.1, ⟨hk.1.2, hk.2⟩⟩))).2.1 (Kd.R_F (Kd.R_mono (ok' := (fun k_ => (w.heap.size ≤ k_) ∧ k_ ≠ gb197 ∧ k_ ≠ g)) (IsS56.apart HI0.out (Kd.R_types (HO202.out) BK197.out (by decide)) (by decide)) (fun k_ hk => ⟨hk.1.1.1.1.1.1, ⟨hk.1.2, hk.2⟩⟩))))) (Reps.one (show Kd.FK (Kd.slice 35 k35) _ _ y203 [.slice Ao26 y203.length co26] from (Kd.FK_slice_mk (Kd.R_reads' (Kd.R_mono (ok' := (fun k_ => (w.heap.size ≤ k_) ∧ k_ ≠ gb197 ∧ k_ ≠ g)) (IsS56.apart HI0.out (Kd.R_types (HO205.out) BK197.out (by decide)) (by decide)) (fun k_ hk => ⟨hk.1.1.1.1.1.1, ⟨hk.1.2, hk.2⟩⟩))).2.1 (Kd.R_F (Kd.R_mono (ok' := (fun k_ => (w.heap.size ≤ k_) ∧ k_ ≠ gb197 ∧ k_ ≠ g)) (IsS56.apart HI0.out (Kd.R_types (HO205.out) BK197.out (by decide)) (by decide)) (fun k_ hk => ⟨hk.1.1.1.1.1.1, ⟨hk.1.2, hk.2⟩⟩))))) (Reps.one (show Kd.FK (Kd.slice 35 k35) _ _ y206 [.slice Ao27 y206.length co27] from (Kd.FK_slice_mk (Kd.R_reads' (Kd.R_mono (ok' := (fun k_ => (w.heap.size ≤ k_) ∧ k_ ≠ gb197 ∧ k_ ≠ g)) (IsS56.apart HI0.out (Kd.R_types (HO208.out) BK197.out (by decide)) (by decide)) (fun k_ hk => ⟨hk.1.1.1.1.1.1, ⟨hk.1.2, hk.2⟩⟩))).2.1 (Kd.R_F (Kd.R_mono (ok' := (fun k_ => (w.heap.size ≤ k_) ∧ k_ ≠ gb197 ∧ k_ ≠ g)) (IsS56.apart HI0.out (Kd.R_types (HO208.out) BK197.out (by decide)) (by decide)) (fun k_ hk => ⟨hk.1.1.1.1.1.1, ⟨hk.1.2, hk.2⟩⟩))))) (Reps.one (show Kd.FK (Kd.slice 35 k35) _ _ y209 [.slice Ao28 y209.length co28] from (Kd.FK_slice_mk (Kd.R_reads' (Kd.R_mono (ok' := (fun k_ => (w.heap.size ≤ k_) ∧ k_ ≠ gb197 ∧ k_ ≠ g)) (IsS56.apart HI0.out (Kd.R_types (HO211.out) BK197.out (by decide)) (by decide)) (fun k_ hk => ⟨hk.1.1.1.1.1.1, ⟨hk.1.2, hk.2⟩⟩))).2.1 (Kd.R_F (Kd.R_mono (ok' := (fun k_ => (w.heap.size ≤ k_) ∧ k_ ≠ gb197 ∧ k_ ≠ g)) (IsS56.apart HI0.out (Kd.R_types (HO211.out) BK197.out (by decide)) (by decide)) (fun k_ hk => ⟨hk.1.1.1.1.1.1, ⟨hk.1.2, hk.2⟩⟩))))) (Reps.none _ _)))))); intro v213 w29 ho30 hb hg_ hnew_; clear hg_ hnew_; (first | rw [← Ny212.out] at ho30 | (simp only [Int.reduceToNat] at ho30; rw [← Ny212.out] at ho30)); have HO214 := Aside0.mk (Kd.N_lower ho30 (keep_size (w := w) (g := g) (row := none) (by repeat (first | (with_reducible first | exact HK.out | apply KeepBut.set_ | apply keep_drewN | apply keep_drew | apply keep_alloc | refine keep_far ?_ GW197.out _) | exact HK.out)))); replace BK197 := Z.bb BK197 hb; replace HK := Aside0.mk (KeepBut.trans (by repeat (first | (with_reducible first | exact HK.out | apply KeepBut.set_ | apply keep_drewN | apply keep_drew | apply keep_alloc | refine keep_far ?_ GW197.out _) | exact HK.out)) (KeepBut.of_below hb g none) (.inl rfl)); replace HB := Aside0.mk (below_step (by repeat (first | (with_reducible first | exact HB.out | apply below_alloc | apply pw_below_drewN | apply below_drew1 | refine below_set ?_ (IsS56.ge HI0.out) | refine below_set ?_ GE197.out) | exact HB.out)) hb); replace HI0 := Aside0.mk (IsS56.below (by repeat (first | (with_reducible first | exact HI0.out | apply IsS56.alloc | apply IsS56.drewN | apply IsS56.drew | apply IsS56.set_1 | refine IsS56.far ?_ NB0_197.out _) | exact HI0.out)) hb); clear HO202 HO205 HO208 HO211; clear hb ho30) | ((with_reducible refine gate_callee (f := 30) rfl ?_); refine goesL_ (some 32) rfl rfl Try.func30 (by kernel_rfl) rfl #[.pointer (some ⟨g, 0, none⟩), .int .i64 4] rfl Z.ar ?_; (with_reducible refine (spec_l20Rd_pick.calls kj3 g s0_0 x1001_3 4 t215 t216 w0 _ ?q1 ?q2 A14.out).mono ?_); (case q1 => repeat (first | (with_reducible first | exact HI0.out | apply IsS56.alloc | apply IsS56.drewN | apply IsS56.drew | apply IsS56.set_1 | refine IsS56.far ?_ NB0_197.out _) | exact HI0.out)); (case q2 => repeat (first | (with_reducible first | exact HB.out | apply below_alloc | apply pw_below_drewN | apply below_drew1 | refine below_set ?_ (IsS56.ge HI0.out) | refine below_set ?_ GE197.out) | exact HB.out)); rintro e w31 ⟨rfl, hi, hb, hk⟩; refine ⟨_, rfl, ?_⟩; replace BK197 := Aside0.mk (KeepBut.blk hk (g' := gb197) (o := .cells #[.int .i64 a1_0, .slice A1_1 l1_1.length c1_1] 25 (0, 0)) (Z.bk BK197.out) NB197_0.out (by simp)); replace HO214 := Aside0.mk (Kd.N_mono (Kd.N_keep (Kd.N_mono (ok := fun k_ => (((w.heap.size ≤ k_)) ∧ (k_ ≠ gb197 ∧ k_ ≠ g))) (by (with_reducible repeat (first | apply Kd.N_alloc | apply Kd.N_drewN | apply Kd.N_drew)); exact HO214.out) (fun k_ hk_ => (⟨hk_, hk_.2.2⟩ : _ ∧ k_ ≠ g))) hk (fun _ h => h.2)) (fun _ h => h.1)); replace HK := Aside0.mk (KeepBut.trans (by repeat (first | (with_reducible first | exact HK.out | apply KeepBut.set_ | apply keep_drewN | apply keep_drew | apply keep_alloc | refine keep_far ?_ GW197.out _) | exact HK.out)) hk (.inl rfl)); replace HB := Aside0.mk (hb); replace HI0 := Aside0.mk (hi); (try clear hb); (try clear hb2); (try clear hk); (try clear hi); obtain ⟨Ao32, co32, eo32⟩ := Kd.N_slice HO214.out; subst eo32; have p217 : 0 ≤ (t215 : Int) := Z.od; have q217 : t215 < (y212.length : Int) := Z.od; obtain ⟨ad217, A217_0, c217_0, e217, hx217_0, hl217_0, hi217_0⟩ := at_L3 (Kd.N_reads' HO214.out).2.2 t215 p217 q217; cases e217; obtain ⟨ce217, hce217, hMe217, hcc217⟩ := Kd.N_get HO214.out [] t215 p217 (by first | exact q217 | exact Z.od | (have e_ := (Kd.N_reads' HO214.out).1; omega)); obtain ⟨ua217_0, uc217_0, rfl, ul217_0, ge217_0⟩ := Kd.FK_slice_open hMe217; have hv217_0 := hcc217 0 _ rfl; rw [Nat.add_zero, show ((Kd.slice 35 k35)).sz = 1 from rfl, Nat.mul_one] at hv217_0; replace hv217_0 := Option.some.inj (hv217_0.symm.trans hx217_0); injection hv217_0 with hva_ hvn_ hvc_; rw [hva_] at ge217_0; rw [hvc_] at ul217_0; have HL217_0 := Aside0.mk (show Kd.V k35 35 _ w.heap.size _ _ (rd_L3 y212 t215) from Kd.V_mk ul217_0 ge217_0); clear hva_ hvn_ hvc_ ge217_0 ul217_0; clear hcc217 hce217; have HR217_0 := Aside0.mk hi217_0; have HC217_0 := Aside0.mk hl217_0; clear hi217_0 hl217_0; replace p217 := eq_true p217; replace q217 := eq_true q217))
    go_ret
    exact ⟨_, by first | rfl | (simp [errW_none, errW_some] <;> rfl) | (simp [*, errW_none, errW_some] <;> rfl), by (with_reducible repeat (first | apply Kd.V_alloc | apply Kd.V_drewN | apply Kd.V_drew)); exact Kd.V_mono HL217_0.out (fun _ hk => hk.1.1), by repeat (first | (with_reducible first | exact HI0.out | apply IsS56.alloc | apply IsS56.drewN | apply IsS56.drew | apply IsS56.set_1 | refine IsS56.far ?_ NB0_197.out _) | exact HI0.out), by repeat (first | (with_reducible first | exact HB.out | apply below_alloc | apply pw_below_drewN | apply below_drew1 | refine below_set ?_ (IsS56.ge HI0.out) | refine below_set ?_ GE197.out) | exact HB.out), by repeat (first | (with_reducible first | exact HK.out | apply KeepBut.set_ | apply keep_drewN | apply keep_drew | apply keep_alloc | refine keep_far ?_ GW197.out _) | exact HK.out)⟩
   ·replace c13 := Bool.eq_false_iff.mpr c13
    subst c13
    rw [if_neg (show ¬ (false = true) by decide)] at H
    obtain ⟨y218, hy218⟩ : ∃ y_ : List (List (S35)), y_ = (([] : List (List (S35)))) := ⟨_, rfl⟩
    replace H : ((spec_l20Rd_pick.f kj3 s0_0 x1001_3 4).bind fun bt221 => (spec_l20Term.l0 kj3 y218 (wrap64 (1 + bt221.1)) s0_0 bt221.2 a1_0 l1_1)) = some (r1, r2) := by first | (rw [hy218]; with_reducible exact H) | (have H2_ := (Option.bind_some _ _).symm.trans H; rw [hy218]; with_reducible exact H2_) | (have H2_ := (Option.bind_some _ _).symm.trans H; with_reducible exact H2_) | with_reducible exact H | (rw [hy218]; exact H) | exact H
    have Ny218 := Aside0.mk hy218
    clear hy218
    replace H := Option.bind_eq_some_iff.mp H
    obtain ⟨⟨t221, t222⟩, A330, H⟩ := H
    try dsimp only at H
    have A33 := Aside0.mk A330
    clear A330
    have H' := Aside0.mk H
    clear H
    go_wp2_with (first | ((with_reducible refine gate_dst (N := 35) rfl ?_); refine Kd.N_lit (Kd.slice 35 k35) _ 26 ?hg (N' := 35) ?hd (xs := ([] : List (List (S35)))) (inner := []) (ok := (fun k_ => (w.heap.size ≤ k_) ∧ k_ ≠ gb197 ∧ k_ ≠ g)) (okp := (fun k_ => (w.heap.size ≤ k_) ∧ k_ ≠ gb197 ∧ k_ ≠ g)) ?hr ?hp (fun _ hk => hk) ((show ∀ k_, wc.heap.size ≤ k_ → (fun k_ => (w.heap.size ≤ k_) ∧ k_ ≠ gb197 ∧ k_ ≠ g) k_ from fun k_ hk => ⟨(Nat.le_trans (keep_size (w := w) (g := g) (row := none) (by repeat (first | (with_reducible first | exact HK.out | apply KeepBut.set_ | apply keep_drewN | apply keep_drew | apply keep_alloc | refine keep_far ?_ GW197.out _) | exact HK.out))) hk), Kd.freshB (g := gb197) (o := .cells #[.int .i64 a1_0, .slice A1_1 l1_1.length c1_1] 25 (0, 0)) (Z.bk BK197.out) k_ hk, IsS56.fresh (by repeat (first | (with_reducible first | exact HI0.out | apply IsS56.alloc | apply IsS56.drewN | apply IsS56.drew | apply IsS56.set_1 | refine IsS56.far ?_ NB0_197.out _) | exact HI0.out)) k_ hk⟩) _ (Nat.le_refl _)) (Below.refl _ _) (Nat.le_refl _) (by simp) ?_; (case hd | hg => rfl); (case hr => first | (go_simp; done) | (go_simp; rfl)); (case hp => exact (Reps.none _ _)); intro v219 w34 ho35 hb hg_ hnew_; clear hg_ hnew_; (first | rw [← Ny218.out] at ho35 | (simp only [Int.reduceToNat] at ho35; rw [← Ny218.out] at ho35)); have HO220 := Aside0.mk (Kd.N_lower ho35 (keep_size (w := w) (g := g) (row := none) (by repeat (first | (with_reducible first | exact HK.out | apply KeepBut.set_ | apply keep_drewN | apply keep_drew | apply keep_alloc | refine keep_far ?_ GW197.out _) | exact HK.out)))); replace BK197 := Z.bb BK197 hb; replace HK := Aside0.mk (KeepBut.trans (by repeat (first | (with_reducible first | exact HK.out | apply KeepBut.set_ | apply keep_drewN | apply keep_drew | apply keep_alloc | refine keep_far ?_ GW197.out _) | exact HK.out)) (KeepBut.of_below hb g none) (.inl rfl)); replace HB := Aside0.mk (below_step (by repeat (first | (with_reducible first | exact HB.out | apply below_alloc | apply pw_below_drewN | apply below_drew1 | refine below_set ?_ (IsS56.ge HI0.out) | refine below_set ?_ GE197.out) | exact HB.out)) hb); replace HI0 := Aside0.mk (IsS56.below (by repeat (first | (with_reducible first | exact HI0.out | apply IsS56.alloc | apply IsS56.drewN | apply IsS56.drew | apply IsS56.set_1 | refine IsS56.far ?_ NB0_197.out _) | exact HI0.out)) hb); clear hb ho35) | ((with_reducible refine gate_callee (f := 30) rfl ?_); refine goesL_ (some 37) rfl rfl Try.func30 (by kernel_rfl) rfl #[.pointer (some ⟨g, 0, none⟩), .int .i64 4] rfl Z.ar ?_; (with_reducible refine (spec_l20Rd_pick.calls kj3 g s0_0 x1001_3 4 t221 t222 w0 _ ?q1 ?q2 A33.out).mono ?_); (case q1 => repeat (first | (with_reducible first | exact HI0.out | apply IsS56.alloc | apply IsS56.drewN | apply IsS56.drew | apply IsS56.set_1 | refine IsS56.far ?_ NB0_197.out _) | exact HI0.out)); (case q2 => repeat (first | (with_reducible first | exact HB.out | apply below_alloc | apply pw_below_drewN | apply below_drew1 | refine below_set ?_ (IsS56.ge HI0.out) | refine below_set ?_ GE197.out) | exact HB.out)); rintro e w36 ⟨rfl, hi, hb, hk⟩; refine ⟨_, rfl, ?_⟩; replace BK197 := Aside0.mk (KeepBut.blk hk (g' := gb197) (o := .cells #[.int .i64 a1_0, .slice A1_1 l1_1.length c1_1] 25 (0, 0)) (Z.bk BK197.out) NB197_0.out (by simp)); replace HO220 := Aside0.mk (Kd.N_mono (Kd.N_keep (Kd.N_mono (ok := fun k_ => (((w.heap.size ≤ k_)) ∧ (k_ ≠ gb197 ∧ k_ ≠ g))) (by (with_reducible repeat (first | apply Kd.N_alloc | apply Kd.N_drewN | apply Kd.N_drew)); exact HO220.out) (fun k_ hk_ => (⟨hk_, hk_.2.2⟩ : _ ∧ k_ ≠ g))) hk (fun _ h => h.2)) (fun _ h => h.1)); replace HK := Aside0.mk (KeepBut.trans (by repeat (first | (with_reducible first | exact HK.out | apply KeepBut.set_ | apply keep_drewN | apply keep_drew | apply keep_alloc | refine keep_far ?_ GW197.out _) | exact HK.out)) hk (.inl rfl)); replace HB := Aside0.mk (hb); replace HI0 := Aside0.mk (hi); (try clear hb); (try clear hb2); (try clear hk); (try clear hi)))
    go_loopg [7, 8] kj3 (fun kq v7 v8 w' => ∃ (x7_2 : List (List (S35))) (x8_2 : Int) (x1001_2 : Int), v8 = .int .i64 x8_2 ∧ Aside0 (spec_l20Term.l0 kq x7_2 x8_2 s0_0 x1001_2 a1_0 l1_1 = some (r1, r2)) ∧ Aside0 (kq ≤ kj3) ∧ Aside0 (Kd.N (Kd.slice 35 k35) 26 w' w.heap.size (fun k_ => (w.heap.size ≤ k_) ∧ k_ ≠ gb197 ∧ k_ ≠ g) v7 x7_2) ∧ Aside0 (w'.heap[gb197]? = some (.cells #[.int .i64 a1_0, (.slice A1_1 l1_1.length c1_1)] 25 (0, 0))) ∧ Aside0 (IsS56 w0 w' g s0_0 x1001_2) ∧ Aside0 (KeepBut w w' g none) ∧ Aside0 (Below w0.heap.size w0 w'))
    case atStart => exact ⟨(y218), (wrap64 (1 + t221)), (t222), (by first | rfl | (simp; done) | (simp [*]; done)), H', ⟨Nat.le_refl _⟩, ⟨by (with_reducible repeat (first | apply Kd.N_alloc | apply Kd.N_drewN | apply Kd.N_drew)); exact HO220.out⟩, ⟨by (with_reducible repeat (first | refine blk_drewN ?_ _ | refine blk_drew ?_ | refine blk_alloc ?_ _)); exact BK197.out⟩, ⟨by repeat (first | (with_reducible first | exact HI0.out | apply IsS56.alloc | apply IsS56.drewN | apply IsS56.drew | apply IsS56.set_1 | refine IsS56.far ?_ NB0_197.out _) | exact HI0.out)⟩, ⟨by repeat (first | (with_reducible first | exact HK.out | apply KeepBut.set_ | apply keep_drewN | apply keep_drew | apply keep_alloc | refine keep_far ?_ GW197.out _) | exact HK.out)⟩, ⟨by repeat (first | (with_reducible first | exact HB.out | apply below_alloc | apply pw_below_drewN | apply below_drew1 | refine below_set ?_ (IsS56.ge HI0.out) | refine below_set ?_ GE197.out) | exact HB.out)⟩⟩
    case round =>
     clear H'
     try clear c1
     try clear c2
     try clear p2
     try clear q2
     try clear hx2
     try clear c3
     try clear c4
     try clear c6
     try clear c6b0
     try clear c6b1
     try clear c6b2
     try clear p6
     try clear c7
     try clear c10
     try clear c13
     try clear c15
     try clear c15b0
     try clear c16
     try clear c16b0
     try clear c21
     try clear p21
     try clear q21
     try clear hx21
     try clear c30
     try clear hcz11_0
     try clear hcz11_1
     try clear hcz8_0
     try clear hcz8_1
     try clear hfz11_0
     try clear hfz11_1
     try clear hfz8_0
     try clear hfz8_1
     try clear hx217_0
     try clear p2
     try clear p217
     try clear q217
     obtain ⟨x7_2, x8_2, x1001_2, rfl, HA, HK2, HO_7, BK197, HI0, HK, HB⟩ := hrel
     cases gk with
     | zero => exact absurd HA.out (by simp [spec_l20Term.l0])
     | succ k2 =>
      have H := HA.out
      clear HA
      simp only [spec_l20Term.l0] at H
      by_cases c37 : x8_2 > 0
      ·rw [if_pos c37] at H
       have c37b0 : decide (0 < x8_2) = true := decide_eq_true c37
       clear c37
       replace H := Option.bind_eq_some_iff.mp H
       obtain ⟨⟨t223, t224⟩, A380, H⟩ := H
       try dsimp only at H
       have A38 := Aside0.mk A380
       clear A380
       obtain ⟨c39, H⟩ := Z.ifp H
       have c39b0 : decide (0 ≤ t223) = true := decide_eq_true c39
       clear c39
       obtain ⟨c40, H⟩ := Z.ifp H
       have c40b0 : decide (t223 < (l1_1.length : Int)) = true := decide_eq_true c40
       clear c40
       obtain ⟨ji41, hji41⟩ : ∃ j_ : Int, (mx (rd l1_1 t223) 0) = j_ := ⟨_, rfl⟩
       replace H : ((spec_l1Heads.f k2 (ji41)).bind fun t226 => ((spec_l20Rd_pick.f k2 s0_0 t224 (mx t226 1)).bind fun bt227 => (if x7_2.length < 5864062014805 then (spec_l20Term.l0 k2 (x7_2 ++ [(([(⟨0, t223, wrap64 (1 + bt227.1)⟩ : S35)] : List (S35)))]) (wrap64 (x8_2 - 1)) s0_0 bt227.2 a1_0 l1_1) else (none)))) = some (r1, r2) := by first | (rw [hji41] at H; exact H) | (simp only [hji41] at H ⊢; exact H)
       (try rw [hji41] at A38)
       have hji41_ : (if (rd l1_1 t223) < 0 then 0 else (rd l1_1 t223)) = ji41 := hji41
       replace H := Option.bind_eq_some_iff.mp H
       obtain ⟨t226, A420, H⟩ := H
       try dsimp only at H
       have A42 := Aside0.mk A420
       clear A420
       obtain ⟨ji43, hji43⟩ : ∃ j_ : Int, (mx t226 1) = j_ := ⟨_, rfl⟩
       replace H : ((spec_l20Rd_pick.f k2 s0_0 t224 (ji43)).bind fun bt227 => (if x7_2.length < 5864062014805 then (spec_l20Term.l0 k2 (x7_2 ++ [(([(⟨0, t223, wrap64 (1 + bt227.1)⟩ : S35)] : List (S35)))]) (wrap64 (x8_2 - 1)) s0_0 bt227.2 a1_0 l1_1) else (none))) = some (r1, r2) := by first | (rw [hji43] at H; exact H) | (simp only [hji43] at H ⊢; exact H)
       (try rw [hji43] at A38)
       (try rw [hji43] at A42)
       (try (have hji43l : 1 ≤ ji43 := by (rw [← hji43]; unfold mx; (repeat' split) <;> omega)))
       (try (have hji43m : 0 ≤ ji43 := by omega))
       have hji43_ : (if t226 < 1 then 1 else t226) = ji43 := hji43
       replace H := Option.bind_eq_some_iff.mp H
       obtain ⟨⟨t227, t228⟩, A440, H⟩ := H
       try dsimp only at H
       have A44 := Aside0.mk A440
       clear A440
       obtain ⟨y229, hy229⟩ : ∃ y_ : List (S35), y_ = (([(⟨0, t223, wrap64 (1 + t227)⟩ : S35)] : List (S35))) := ⟨_, rfl⟩
       replace H : (if x7_2.length < 5864062014805 then (spec_l20Term.l0 k2 (x7_2 ++ [y229]) (wrap64 (x8_2 - 1)) s0_0 t228 a1_0 l1_1) else (none)) = some (r1, r2) := by first | (rw [hy229]; with_reducible exact H) | (have H2_ := (Option.bind_some _ _).symm.trans H; rw [hy229]; with_reducible exact H2_) | (have H2_ := (Option.bind_some _ _).symm.trans H; with_reducible exact H2_) | with_reducible exact H | (rw [hy229]; exact H) | exact H
       have Ny229 := Aside0.mk hy229
       clear hy229
       obtain ⟨c45, H⟩ := Z.ifp H
       have LMc45 := Aside0.mk c45
       clear c45
       obtain ⟨y232, hy232⟩ : ∃ y_ : List (List (S35)), y_ = (x7_2 ++ [y229]) := ⟨_, rfl⟩
       replace H : (spec_l20Term.l0 k2 y232 (wrap64 (x8_2 - 1)) s0_0 t228 a1_0 l1_1) = some (r1, r2) := by first | (rw [hy232]; with_reducible exact H) | (have H2_ := (Option.bind_some _ _).symm.trans H; rw [hy232]; with_reducible exact H2_) | (have H2_ := (Option.bind_some _ _).symm.trans H; with_reducible exact H2_) | with_reducible exact H | (rw [hy232]; exact H) | exact H
       have Ny232 := Aside0.mk hy232
       clear hy232
       have H' := Aside0.mk H
       clear H
       have hnb46 := NB197_0.out
       have hnc46 := NB0_197.out
       have hcz47 := Z.c2 BK197.out
       go_wp2_with (first | ((with_reducible refine gate_callee (f := 30) rfl ?_); refine goesL_ (some 47) rfl rfl Try.func30 (by kernel_rfl) rfl #[.pointer (some ⟨g, 0, none⟩), .int .i64 (l1_1.length : Int)] rfl Z.ar ?_; (with_reducible refine (spec_l20Rd_pick.calls k2 g s0_0 x1001_2 (l1_1.length : Int) t223 t224 w0 _ ?q1 ?q2 A38.out).mono ?_); (case q1 => repeat (first | (with_reducible first | exact HI0.out | apply IsS56.alloc | apply IsS56.drewN | apply IsS56.drew | apply IsS56.set_1 | refine IsS56.far ?_ NB0_197.out _) | exact HI0.out)); (case q2 => repeat (first | (with_reducible first | exact HB.out | apply below_alloc | apply pw_below_drewN | apply below_drew1 | refine below_set ?_ (IsS56.ge HI0.out) | refine below_set ?_ GE197.out) | exact HB.out)); rintro e w48 ⟨rfl, hi, hb, hk⟩; refine ⟨_, rfl, ?_⟩; replace HO_7 := Aside0.mk (Kd.N_mono (Kd.N_keep (Kd.N_mono (ok := fun k_ => (((w.heap.size ≤ k_)) ∧ (k_ ≠ gb197 ∧ k_ ≠ g))) (by (with_reducible repeat (first | apply Kd.N_alloc | apply Kd.N_drewN | apply Kd.N_drew)); exact HO_7.out) (fun k_ hk_ => (⟨hk_, hk_.2.2⟩ : _ ∧ k_ ≠ g))) hk (fun _ h => h.2)) (fun _ h => h.1)); replace BK197 := Aside0.mk (KeepBut.blk hk (g' := gb197) (o := .cells #[.int .i64 a1_0, .slice A1_1 l1_1.length c1_1] 25 (0, 0)) (Z.bk BK197.out) NB197_0.out (by simp)); replace HK := Aside0.mk (KeepBut.trans (by repeat (first | (with_reducible first | exact HK.out | apply KeepBut.set_ | apply keep_drewN | apply keep_drew | apply keep_alloc | refine keep_far ?_ GW197.out _) | exact HK.out)) hk (.inl rfl)); replace HB := Aside0.mk (hb); replace HI0 := Aside0.mk (hi); (try clear hb); (try clear hb2); (try clear hk); (try clear hi); have hcz49 := Z.c2 BK197.out; have p225 : 0 ≤ (t223 : Int) := Z.od; have q225 : t223 < (l1_1.length : Int) := Z.od; obtain ⟨ad225, e225, hx225_0⟩ := Kd.at_int HR1_1.out t223 p225 q225; cases e225; replace hx225_0 := keep_cell HK.out hx225_0 (by first | (rw [add_block]; exact hf1_1 _ rfl (by omega)) | exact hf1_1 _ rfl (by omega) | exact hf1_1 ad225 rfl (by omega)); replace p225 := eq_true p225; replace q225 := eq_true q225) | ((with_reducible refine gate_callee (f := 25) rfl ?_); refine goesL_ (some 57) rfl rfl Try.func25 (by kernel_rfl) rfl #[.int .i64 ji41] rfl (by (try simp only [List.map_toArray, List.map_cons, List.map_nil]); first | done | (simp only [hji41]; rfl) | rfl | (simp only [List.length_drop, List.length_take]; rfl)) ?_; (with_reducible refine (spec_l1Heads.calls k2 ji41 t226 _ A42.out).mono ?_); rintro e w' ⟨rfl, ⟨nd, rfl⟩⟩; refine ⟨_, rfl, ?_⟩) | ((with_reducible refine gate_callee (f := 30) rfl ?_); refine goesL_ (some 59) rfl rfl Try.func30 (by kernel_rfl) rfl #[.pointer (some ⟨g, 0, none⟩), .int .i64 ji43] rfl (by (try simp only [List.map_toArray, List.map_cons, List.map_nil]); first | done | (simp only [hji43]; rfl) | rfl | (simp only [List.length_drop, List.length_take]; rfl)) ?_; (with_reducible refine (spec_l20Rd_pick.calls k2 g s0_0 t224 ji43 t227 t228 w0 _ ?q1 ?q2 A44.out).mono ?_); (case q1 => repeat (first | (with_reducible first | exact HI0.out | apply IsS56.alloc | apply IsS56.drewN | apply IsS56.drew | apply IsS56.set_1 | refine IsS56.far ?_ NB0_197.out _) | exact HI0.out)); (case q2 => repeat (first | (with_reducible first | exact HB.out | apply below_alloc | apply pw_below_drewN | apply below_drew1 | refine below_set ?_ (IsS56.ge HI0.out) | refine below_set ?_ GE197.out) | exact HB.out)); rintro e w50 ⟨rfl, hi, hb, hk⟩; refine ⟨_, rfl, ?_⟩; replace HO_7 := Aside0.mk (Kd.N_mono (Kd.N_keep (Kd.N_mono (ok := fun k_ => (((w.heap.size ≤ k_)) ∧ (k_ ≠ gb197 ∧ k_ ≠ g))) (by (with_reducible repeat (first | apply Kd.N_alloc | apply Kd.N_drewN | apply Kd.N_drew)); exact HO_7.out) (fun k_ hk_ => (⟨hk_, hk_.2.2⟩ : _ ∧ k_ ≠ g))) hk (fun _ h => h.2)) (fun _ h => h.1)); replace BK197 := Aside0.mk (KeepBut.blk hk (g' := gb197) (o := .cells #[.int .i64 a1_0, .slice (some ad225) l1_1.length c1_1] 25 (0, 0)) (Z.bk BK197.out) NB197_0.out (by simp)); replace HK := Aside0.mk (KeepBut.trans (by repeat (first | (with_reducible first | exact HK.out | apply KeepBut.set_ | apply keep_drewN | apply keep_drew | apply keep_alloc | refine keep_far ?_ GW197.out _) | exact HK.out)) hk (.inl rfl)); replace HB := Aside0.mk (hb); replace HI0 := Aside0.mk (hi); (try clear hb); (try clear hb2); (try clear hk); (try clear hi)) | ((with_reducible refine gate_dst (N := 62) rfl ?_); refine Kd.R_lit k35 _ 35 ?hg (N := 62) ?hd (xs := ([(⟨0, t223, wrap64 (1 + t227)⟩ : S35)] : List (S35))) (inner := [.int .i64 0, .int .i64 t223, .int .i64 (wrap64 (1 + t227))]) (ok := fun _ => True) (okp := fun _ => True) ?hr ?hp (fun _ hk => hk) trivial (Below.refl _ _) (Nat.le_refl _) (by simp) ?_; (case hd | hg => rfl); (case hr => first | (go_simp; done) | (go_simp; rfl)); (case hp => exact (Reps.c3 (show Kd.M k35 _ _ _ (⟨0, t223, wrap64 (1 + t227)⟩ : S35) [.int .i64 0, .int .i64 t223, .int .i64 (wrap64 (1 + t227))] from (k35_mkM _ _ _ (⟨0, t223, wrap64 (1 + t227)⟩ : S35) )) (Reps.none _ _))); intro v230 w51 ho52 hb hg_ hnew_; clear hg_ hnew_; (first | rw [← Ny229.out] at ho52 | (simp only [Int.reduceToNat] at ho52; rw [← Ny229.out] at ho52)); replace HO_7 := Aside0.mk (Kd.N_elder' (by (with_reducible repeat (first | apply Kd.N_alloc | apply Kd.N_drewN | apply Kd.N_drew)); exact HO_7.out) (Kd.R_base ho52) hb); have HO231 := Aside0.mk (Kd.R_lower (Kd.R_newM (M := fun k_ => (w.heap.size ≤ k_)) ho52 (keep_size (w := w) (g := g) (row := none) (by repeat (first | (with_reducible first | exact HK.out | apply KeepBut.set_ | apply keep_drewN | apply keep_drew | apply keep_alloc | refine keep_far ?_ GW197.out _) | exact HK.out))) (fun k_ h_ => h_)) (keep_size (w := w) (g := g) (row := none) (by repeat (first | (with_reducible first | exact HK.out | apply KeepBut.set_ | apply keep_drewN | apply keep_drew | apply keep_alloc | refine keep_far ?_ GW197.out _) | exact HK.out)))); replace BK197 := Z.bb BK197 hb; replace HK := Aside0.mk (KeepBut.trans (by repeat (first | (with_reducible first | exact HK.out | apply KeepBut.set_ | apply keep_drewN | apply keep_drew | apply keep_alloc | refine keep_far ?_ GW197.out _) | exact HK.out)) (KeepBut.of_below hb g none) (.inl rfl)); replace HB := Aside0.mk (below_step (by repeat (first | (with_reducible first | exact HB.out | apply below_alloc | apply pw_below_drewN | apply below_drew1 | refine below_set ?_ (IsS56.ge HI0.out) | refine below_set ?_ GE197.out) | exact HB.out)) hb); replace HI0 := Aside0.mk (IsS56.below (by repeat (first | (with_reducible first | exact HI0.out | apply IsS56.alloc | apply IsS56.drewN | apply IsS56.drew | apply IsS56.set_1 | refine IsS56.far ?_ NB0_197.out _) | exact HI0.out)) hb); clear hb ho52; obtain ⟨Ao54, co54, eo54⟩ := Kd.R_slice HO231.out; subst eo54) | ((with_reducible refine gate_builtin (b := .append) (xs := #[.tmp 48, .tmp 63]) rfl ?_); at_builtin; refine Kd.N_append (Kd.slice 35 k35) w.heap.size rfl (.tmp 48) (.tmp 63) 67 26 (.slice none 0 0) 24 rfl Try.underlying67 info26 rfl (by decide) (by omega) u7 x7_2 y229 [.slice Ao54 y229.length co54] (fun k_ => (w.heap.size ≤ k_) ∧ k_ ≠ gb197 ∧ k_ ≠ g) (fun k_ => ((fun k_ => (w.heap.size ≤ k_) ∧ k_ ≠ gb197 ∧ k_ ≠ g)) k_ ∧ some k_ ≠ (u7 : Value).ownBlock) rfl rfl ?aP (fun _ hk => hk) ?aF ?aO (Below.refl _ _) ?aS ?aL ?_; (case aP => exact (Kd.FK_slice_mk (Kd.R_reads' (Kd.R_mono (ok' := (fun k_ => ((fun k_ => (w.heap.size ≤ k_) ∧ k_ ≠ gb197 ∧ k_ ≠ g)) k_ ∧ some k_ ≠ (u7 : Value).ownBlock)) (IsS56.apart HI0.out (Kd.R_types (Kd.R_apart' (HO231.out) (Kd.N_typed HO_7.out) (by decide)) BK197.out (by decide)) (by decide)) (fun k_ hk => ⟨⟨hk.1.1.1.1, ⟨hk.1.2, hk.2⟩⟩, hk.1.1.2⟩))).2.1 (Kd.R_F (Kd.R_mono (ok' := (fun k_ => ((fun k_ => (w.heap.size ≤ k_) ∧ k_ ≠ gb197 ∧ k_ ≠ g)) k_ ∧ some k_ ≠ (u7 : Value).ownBlock)) (IsS56.apart HI0.out (Kd.R_types (Kd.R_apart' (HO231.out) (Kd.N_typed HO_7.out) (by decide)) BK197.out (by decide)) (by decide)) (fun k_ hk => ⟨⟨hk.1.1.1.1, ⟨hk.1.2, hk.2⟩⟩, hk.1.1.2⟩))))); (case aF => exact (fun k_ hk => ⟨(Nat.le_trans (keep_size (w := w) (g := g) (row := none) (by repeat (first | (with_reducible first | exact HK.out | apply KeepBut.set_ | apply keep_drewN | apply keep_drew | apply keep_alloc | refine keep_far ?_ GW197.out _) | exact HK.out))) hk), Kd.freshB (g := gb197) (o := .cells #[.int .i64 a1_0, .slice (some ad225) l1_1.length c1_1] 25 (0, 0)) (Z.bk BK197.out) k_ hk, IsS56.fresh (by repeat (first | (with_reducible first | exact HI0.out | apply IsS56.alloc | apply IsS56.drewN | apply IsS56.drew | apply IsS56.set_1 | refine IsS56.far ?_ NB0_197.out _) | exact HI0.out)) k_ hk⟩)); (case aO => exact (by (with_reducible repeat (first | apply Kd.N_alloc | apply Kd.N_drewN | apply Kd.N_drew)); exact Kd.N_mono HO_7.out (fun _ hk => ⟨hk.1.1, ⟨hk.1.2.1, hk.1.2.2⟩⟩))); (case aS => exact (keep_size (w := w) (g := g) (row := none) (by repeat (first | (with_reducible first | exact HK.out | apply KeepBut.set_ | apply keep_drewN | apply keep_drew | apply keep_alloc | refine keep_far ?_ GW197.out _) | exact HK.out)))); (case aL => have := LMc45.out; omega); intro v233 w53 ho hb hg hat; rw [← Ny232.out] at ho; replace BK197 := Aside0.mk (blk_grown (g := gb197) (o := .cells #[.int .i64 a1_0, .slice (some ad225) l1_1.length c1_1] 25 (0, 0)) (Z.bk BK197.out) hg (Kd.N_ne HO_7.out BK197.out (by decide))); replace HB := Aside0.mk (below_weaken (by repeat (first | (with_reducible first | exact HB.out | apply below_alloc | apply pw_below_drewN | apply below_drew1 | refine below_set ?_ (IsS56.ge HI0.out) | refine below_set ?_ GE197.out) | exact HB.out)) HL.out hb); replace HI0 := Aside0.mk (IsS56.grown (by repeat (first | (with_reducible first | exact HI0.out | apply IsS56.alloc | apply IsS56.drewN | apply IsS56.drew | apply IsS56.set_1 | refine IsS56.far ?_ NB0_197.out _) | exact HI0.out)) hg (IsS56.own_neN HI0.out HO_7.out (by decide))); replace HK := Aside0.mk (KeepBut.trans (by repeat (first | (with_reducible first | exact HK.out | apply KeepBut.set_ | apply keep_drewN | apply keep_drew | apply keep_alloc | refine keep_far ?_ GW197.out _) | exact HK.out)) (KeepBut.of_grown hg g) (Kd.N_base2 HO_7.out)); have HO234 := Aside0.mk (ho); clear HO_7 HO231; clear ho hb hg hat))
       go_roundg k2
       case measure => have := HJ3.out; have := HK2.out; omega
       case rel => exact ⟨(y232), (wrap64 (x8_2 - 1)), (t228), (by first | rfl | (simp; done) | (simp [*]; done)), H', ⟨by have := HJ3.out; have := HK2.out; omega⟩, ⟨by (with_reducible repeat (first | apply Kd.N_alloc | apply Kd.N_drewN | apply Kd.N_drew)); exact HO234.out⟩, ⟨by (with_reducible repeat (first | refine blk_drewN ?_ _ | refine blk_drew ?_ | refine blk_alloc ?_ _)); exact BK197.out⟩, ⟨by repeat (first | (with_reducible first | exact HI0.out | apply IsS56.alloc | apply IsS56.drewN | apply IsS56.drew | apply IsS56.set_1 | refine IsS56.far ?_ NB0_197.out _) | exact HI0.out)⟩, ⟨by repeat (first | (with_reducible first | exact HK.out | apply KeepBut.set_ | apply keep_drewN | apply keep_drew | apply keep_alloc | refine keep_far ?_ GW197.out _) | exact HK.out)⟩, ⟨by repeat (first | (with_reducible first | exact HB.out | apply below_alloc | apply pw_below_drewN | apply below_drew1 | refine below_set ?_ (IsS56.ge HI0.out) | refine below_set ?_ GE197.out) | exact HB.out)⟩⟩
      ·rw [if_neg c37] at H
       have c37b0 : decide (0 < x8_2) = false := decide_eq_false c37
       clear c37
       have H' := Aside0.mk H
       clear H
       go_wp2
       go_loopg [7] k2 (fun kq v7 w' => ∃ (x7_3 : List (List (S35))) (x1001_3 : Int), Aside0 (spec_l20Term.l1 kq x7_3 s0_0 x1001_3 = some (r1, r2)) ∧ Aside0 (kq ≤ k2) ∧ Aside0 (Kd.N (Kd.slice 35 k35) 26 w' w.heap.size (fun k_ => (w.heap.size ≤ k_) ∧ k_ ≠ gb197 ∧ k_ ≠ g) v7 x7_3) ∧ Aside0 (w'.heap[gb197]? = some (.cells #[.int .i64 a1_0, (.slice A1_1 l1_1.length c1_1)] 25 (0, 0))) ∧ Aside0 (IsS56 w0 w' g s0_0 x1001_3) ∧ Aside0 (KeepBut w w' g none) ∧ Aside0 (Below w0.heap.size w0 w'))
       case atStart => exact ⟨(x7_2), (x1001_2), H', ⟨Nat.le_refl _⟩, ⟨by (with_reducible repeat (first | apply Kd.N_alloc | apply Kd.N_drewN | apply Kd.N_drew)); exact HO_7.out⟩, ⟨by (with_reducible repeat (first | refine blk_drewN ?_ _ | refine blk_drew ?_ | refine blk_alloc ?_ _)); exact BK197.out⟩, ⟨by repeat (first | (with_reducible first | exact HI0.out | apply IsS56.alloc | apply IsS56.drewN | apply IsS56.drew | apply IsS56.set_1 | refine IsS56.far ?_ NB0_197.out _) | exact HI0.out)⟩, ⟨by repeat (first | (with_reducible first | exact HK.out | apply KeepBut.set_ | apply keep_drewN | apply keep_drew | apply keep_alloc | refine keep_far ?_ GW197.out _) | exact HK.out)⟩, ⟨by repeat (first | (with_reducible first | exact HB.out | apply below_alloc | apply pw_below_drewN | apply below_drew1 | refine below_set ?_ (IsS56.ge HI0.out) | refine below_set ?_ GE197.out) | exact HB.out)⟩⟩
       case round =>
        clear H'
        try clear c1
        try clear c2
        try clear p2
        try clear q2
        try clear hx2
        try clear c3
        try clear c4
        try clear c6
        try clear c6b0
        try clear c6b1
        try clear c6b2
        try clear p6
        try clear c7
        try clear c10
        try clear c13
        try clear c15
        try clear c15b0
        try clear c16
        try clear c16b0
        try clear c21
        try clear p21
        try clear q21
        try clear hx21
        try clear p22
        try clear q22
        try clear hx22
        try clear c25
        try clear c30
        try clear c37
        try clear c37b0
        try clear c39
        try clear c39b0
        try clear c40
        try clear c40b0
        try clear c45
        try clear c46
        try clear hcz11_0
        try clear hcz11_1
        try clear hcz47_0
        try clear hcz47_1
        try clear hcz49_0
        try clear hcz49_1
        try clear hcz8_0
        try clear hcz8_1
        try clear hfz11_0
        try clear hfz11_1
        try clear hfz47_0
        try clear hfz47_1
        try clear hfz49_0
        try clear hfz49_1
        try clear hfz8_0
        try clear hfz8_1
        try clear hx217_0
        try clear hx225_0
        try clear p2
        try clear p21
        try clear p217
        try clear p225
        try clear p6
        try clear q2
        try clear q21
        try clear q217
        try clear q225
        obtain ⟨x7_3, x1001_3, HA, HK3, HO_7, BK197, HI0, HK, HB⟩ := hrel
        cases gk with
        | zero => exact absurd HA.out (by simp [spec_l20Term.l1])
        | succ k3 =>
         have H := HA.out
         clear HA
         simp only [spec_l20Term.l1] at H
         by_cases c55 : (x7_3.length : Int) > 1
         ·rw [if_pos c55] at H
          have c55b0 : decide (1 < (x7_3.length : Int)) = true := decide_eq_true c55
          have c55b1 : decide (1 < x7_3.length) = true := decide_eq_true (by omega)
          clear c55
          replace H := Option.bind_eq_some_iff.mp H
          obtain ⟨⟨t235, t236⟩, A560, H⟩ := H
          try dsimp only at H
          have A56 := Aside0.mk A560
          clear A560
          obtain ⟨y237, hy237⟩ : ∃ y_ : List (S35), y_ = (([] : List (S35))) := ⟨_, rfl⟩
          replace H : (if 0 ≤ t235 then (if t235 < (x7_3.length : Int) then (if y237.length + (rd_L3 x7_3 t235).length < 5864062014805 then ((some (y237 ++ (rd_L3 x7_3 t235) : List (S35))).bind fun y241 => (if 0 ≤ (wrap64 (t235 + 1)) then (if (wrap64 (t235 + 1)) < (x7_3.length : Int) then (if y241.length + (rd_L3 x7_3 (wrap64 (t235 + 1))).length < 5864062014805 then ((some (y241 ++ (rd_L3 x7_3 (wrap64 (t235 + 1))) : List (S35))).bind fun y245 => ((spec_l20Rd_pick.f k3 s0_0 t236 2).bind fun bt248 => (if y245.length < 5864062014805 then ((some (([] : List (List (S35))) : List (List (S35)))).bind fun y253 => (if t235 ≤ (x7_3.length : Int) then ((some (x7_3.take (t235 : Int).toNat : List (List (S35)))).bind fun y256 => (if y253.length + y256.length < 5864062014805 then ((some (y253 ++ y256 : List (List (S35)))).bind fun y261 => (if y261.length < 5864062014805 then ((some (y261 ++ [(y245 ++ [(⟨wrap64 (1 + bt248.1), 0, 0⟩ : S35)])] : List (List (S35)))).bind fun y264 => (if 0 ≤ (wrap64 (t235 + 2)) then (if (wrap64 (t235 + 2)) ≤ (x7_3.length : Int) then ((some (x7_3.drop ((wrap64 (t235 + 2)) : Int).toNat : List (List (S35)))).bind fun y267 => (if y264.length + y267.length < 5864062014805 then (spec_l20Term.l1 k3 (y264 ++ y267) s0_0 bt248.2) else (none))) else (none)) else (none))) else (none))) else (none))) else (none))) else (none)))) else (none)) else (none)) else (none))) else (none)) else (none)) else (none)) = some (r1, r2) := by first | (rw [hy237]; with_reducible exact H) | (have H2_ := (Option.bind_some _ _).symm.trans H; rw [hy237]; with_reducible exact H2_) | (have H2_ := (Option.bind_some _ _).symm.trans H; with_reducible exact H2_) | with_reducible exact H | (rw [hy237]; exact H) | exact H
          have Ny237 := Aside0.mk hy237
          clear hy237
          obtain ⟨c57, H⟩ := Z.ifp H
          have c57b0 : decide (0 ≤ t235) = true := decide_eq_true c57
          clear c57
          obtain ⟨c58, H⟩ := Z.ifp H
          have c58b0 : decide (t235 < (x7_3.length : Int)) = true := decide_eq_true c58
          clear c58
          obtain ⟨c59, H⟩ := Z.ifp H
          have LMc59 := Aside0.mk c59
          clear c59
          obtain ⟨y241, hy241⟩ : ∃ y_ : List (S35), y_ = (y237 ++ (rd_L3 x7_3 t235)) := ⟨_, rfl⟩
          replace H : (if 0 ≤ (wrap64 (t235 + 1)) then (if (wrap64 (t235 + 1)) < (x7_3.length : Int) then (if y241.length + (rd_L3 x7_3 (wrap64 (t235 + 1))).length < 5864062014805 then ((some (y241 ++ (rd_L3 x7_3 (wrap64 (t235 + 1))) : List (S35))).bind fun y245 => ((spec_l20Rd_pick.f k3 s0_0 t236 2).bind fun bt248 => (if y245.length < 5864062014805 then ((some (([] : List (List (S35))) : List (List (S35)))).bind fun y253 => (if t235 ≤ (x7_3.length : Int) then ((some (x7_3.take (t235 : Int).toNat : List (List (S35)))).bind fun y256 => (if y253.length + y256.length < 5864062014805 then ((some (y253 ++ y256 : List (List (S35)))).bind fun y261 => (if y261.length < 5864062014805 then ((some (y261 ++ [(y245 ++ [(⟨wrap64 (1 + bt248.1), 0, 0⟩ : S35)])] : List (List (S35)))).bind fun y264 => (if 0 ≤ (wrap64 (t235 + 2)) then (if (wrap64 (t235 + 2)) ≤ (x7_3.length : Int) then ((some (x7_3.drop ((wrap64 (t235 + 2)) : Int).toNat : List (List (S35)))).bind fun y267 => (if y264.length + y267.length < 5864062014805 then (spec_l20Term.l1 k3 (y264 ++ y267) s0_0 bt248.2) else (none))) else (none)) else (none))) else (none))) else (none))) else (none))) else (none)))) else (none)) else (none)) else (none)) = some (r1, r2) := by first | (rw [hy241]; with_reducible exact H) | (have H2_ := (Option.bind_some _ _).symm.trans H; rw [hy241]; with_reducible exact H2_) | (have H2_ := (Option.bind_some _ _).symm.trans H; with_reducible exact H2_) | with_reducible exact H | (rw [hy241]; exact H) | exact H
          have Ny241 := Aside0.mk hy241
          clear hy241
          obtain ⟨ji60, hji60⟩ : ∃ j_ : Int, (wrap64 (t235 + 1)) = j_ := ⟨_, rfl⟩
          replace H : (if 0 ≤ (ji60) then (if (ji60) < (x7_3.length : Int) then (if y241.length + (rd_L3 x7_3 (ji60)).length < 5864062014805 then ((some (y241 ++ (rd_L3 x7_3 (ji60)) : List (S35))).bind fun y245 => ((spec_l20Rd_pick.f k3 s0_0 t236 2).bind fun bt248 => (if y245.length < 5864062014805 then ((some (([] : List (List (S35))) : List (List (S35)))).bind fun y253 => (if t235 ≤ (x7_3.length : Int) then ((some (x7_3.take (t235 : Int).toNat : List (List (S35)))).bind fun y256 => (if y253.length + y256.length < 5864062014805 then ((some (y253 ++ y256 : List (List (S35)))).bind fun y261 => (if y261.length < 5864062014805 then ((some (y261 ++ [(y245 ++ [(⟨wrap64 (1 + bt248.1), 0, 0⟩ : S35)])] : List (List (S35)))).bind fun y264 => (if 0 ≤ (wrap64 (t235 + 2)) then (if (wrap64 (t235 + 2)) ≤ (x7_3.length : Int) then ((some (x7_3.drop ((wrap64 (t235 + 2)) : Int).toNat : List (List (S35)))).bind fun y267 => (if y264.length + y267.length < 5864062014805 then (spec_l20Term.l1 k3 (y264 ++ y267) s0_0 bt248.2) else (none))) else (none)) else (none))) else (none))) else (none))) else (none))) else (none)))) else (none)) else (none)) else (none)) = some (r1, r2) := by first | (rw [hji60] at H; exact H) | (simp only [hji60] at H ⊢; exact H)
          (try rw [hji60] at A56)
          have hji60w : (IntKind.i64.wrap (t235 + 1)) = ji60 := (i64_w _).trans hji60
          obtain ⟨c61, H⟩ := Z.ifp H
          have c61b0 : decide (0 ≤ (ji60)) = true := decide_eq_true c61
          clear c61
          obtain ⟨c62, H⟩ := Z.ifp H
          have c62b0 : decide ((ji60) < (x7_3.length : Int)) = true := decide_eq_true c62
          clear c62
          obtain ⟨c63, H⟩ := Z.ifp H
          have LMc63 := Aside0.mk c63
          clear c63
          obtain ⟨y245, hy245⟩ : ∃ y_ : List (S35), y_ = (y241 ++ (rd_L3 x7_3 (ji60))) := ⟨_, rfl⟩
          replace H : ((spec_l20Rd_pick.f k3 s0_0 t236 2).bind fun bt248 => (if y245.length < 5864062014805 then ((some (([] : List (List (S35))) : List (List (S35)))).bind fun y253 => (if t235 ≤ (x7_3.length : Int) then ((some (x7_3.take (t235 : Int).toNat : List (List (S35)))).bind fun y256 => (if y253.length + y256.length < 5864062014805 then ((some (y253 ++ y256 : List (List (S35)))).bind fun y261 => (if y261.length < 5864062014805 then ((some (y261 ++ [(y245 ++ [(⟨wrap64 (1 + bt248.1), 0, 0⟩ : S35)])] : List (List (S35)))).bind fun y264 => (if 0 ≤ (wrap64 (t235 + 2)) then (if (wrap64 (t235 + 2)) ≤ (x7_3.length : Int) then ((some (x7_3.drop ((wrap64 (t235 + 2)) : Int).toNat : List (List (S35)))).bind fun y267 => (if y264.length + y267.length < 5864062014805 then (spec_l20Term.l1 k3 (y264 ++ y267) s0_0 bt248.2) else (none))) else (none)) else (none))) else (none))) else (none))) else (none))) else (none))) = some (r1, r2) := by first | (rw [hy245]; with_reducible exact H) | (have H2_ := (Option.bind_some _ _).symm.trans H; rw [hy245]; with_reducible exact H2_) | (have H2_ := (Option.bind_some _ _).symm.trans H; with_reducible exact H2_) | with_reducible exact H | (rw [hy245]; exact H) | exact H
          have Ny245 := Aside0.mk hy245
          clear hy245
          replace H := Option.bind_eq_some_iff.mp H
          obtain ⟨⟨t248, t249⟩, A640, H⟩ := H
          try dsimp only at H
          have A64 := Aside0.mk A640
          clear A640
          obtain ⟨c65, H⟩ := Z.ifp H
          have LMc65 := Aside0.mk c65
          clear c65
          obtain ⟨y250, hy250⟩ : ∃ y_ : List (S35), y_ = (y245 ++ [(⟨wrap64 (1 + t248), 0, 0⟩ : S35)]) := ⟨_, rfl⟩
          replace H : ((some (([] : List (List (S35))) : List (List (S35)))).bind fun y253 => (if t235 ≤ (x7_3.length : Int) then ((some (x7_3.take (t235 : Int).toNat : List (List (S35)))).bind fun y256 => (if y253.length + y256.length < 5864062014805 then ((some (y253 ++ y256 : List (List (S35)))).bind fun y261 => (if y261.length < 5864062014805 then ((some (y261 ++ [y250] : List (List (S35)))).bind fun y264 => (if 0 ≤ (wrap64 (t235 + 2)) then (if (wrap64 (t235 + 2)) ≤ (x7_3.length : Int) then ((some (x7_3.drop ((wrap64 (t235 + 2)) : Int).toNat : List (List (S35)))).bind fun y267 => (if y264.length + y267.length < 5864062014805 then (spec_l20Term.l1 k3 (y264 ++ y267) s0_0 t249) else (none))) else (none)) else (none))) else (none))) else (none))) else (none))) = some (r1, r2) := by first | (rw [hy250]; with_reducible exact H) | (have H2_ := (Option.bind_some _ _).symm.trans H; rw [hy250]; with_reducible exact H2_) | (have H2_ := (Option.bind_some _ _).symm.trans H; with_reducible exact H2_) | with_reducible exact H | (rw [hy250]; exact H) | exact H
          have Ny250 := Aside0.mk hy250
          clear hy250
          obtain ⟨y253, hy253⟩ : ∃ y_ : List (List (S35)), y_ = (([] : List (List (S35)))) := ⟨_, rfl⟩
          replace H : (if t235 ≤ (x7_3.length : Int) then ((some (x7_3.take (t235 : Int).toNat : List (List (S35)))).bind fun y256 => (if y253.length + y256.length < 5864062014805 then ((some (y253 ++ y256 : List (List (S35)))).bind fun y261 => (if y261.length < 5864062014805 then ((some (y261 ++ [y250] : List (List (S35)))).bind fun y264 => (if 0 ≤ (wrap64 (t235 + 2)) then (if (wrap64 (t235 + 2)) ≤ (x7_3.length : Int) then ((some (x7_3.drop ((wrap64 (t235 + 2)) : Int).toNat : List (List (S35)))).bind fun y267 => (if y264.length + y267.length < 5864062014805 then (spec_l20Term.l1 k3 (y264 ++ y267) s0_0 t249) else (none))) else (none)) else (none))) else (none))) else (none))) else (none)) = some (r1, r2) := by first | (rw [hy253]; with_reducible exact H) | (have H2_ := (Option.bind_some _ _).symm.trans H; rw [hy253]; with_reducible exact H2_) | (have H2_ := (Option.bind_some _ _).symm.trans H; with_reducible exact H2_) | with_reducible exact H | (rw [hy253]; exact H) | exact H
          have Ny253 := Aside0.mk hy253
          clear hy253
          have c66b0 := eq_true (Z.od : 0 ≤ t235)
          obtain ⟨c67, H⟩ := Z.ifp H
          have c67b0 := eq_true c67
          have c67b1 : decide (t235 ≤ (x7_3.length : Int)) = true := decide_eq_true c67
          clear c67
          obtain ⟨y256, hy256⟩ : ∃ y_ : List (List (S35)), y_ = (x7_3.take (t235 : Int).toNat) := ⟨_, rfl⟩
          replace H : (if y253.length + y256.length < 5864062014805 then ((some (y253 ++ y256 : List (List (S35)))).bind fun y261 => (if y261.length < 5864062014805 then ((some (y261 ++ [y250] : List (List (S35)))).bind fun y264 => (if 0 ≤ (wrap64 (t235 + 2)) then (if (wrap64 (t235 + 2)) ≤ (x7_3.length : Int) then ((some (x7_3.drop ((wrap64 (t235 + 2)) : Int).toNat : List (List (S35)))).bind fun y267 => (if y264.length + y267.length < 5864062014805 then (spec_l20Term.l1 k3 (y264 ++ y267) s0_0 t249) else (none))) else (none)) else (none))) else (none))) else (none)) = some (r1, r2) := by first | (rw [hy256]; with_reducible exact H) | (have H2_ := (Option.bind_some _ _).symm.trans H; rw [hy256]; with_reducible exact H2_) | (have H2_ := (Option.bind_some _ _).symm.trans H; with_reducible exact H2_) | with_reducible exact H | (rw [hy256]; exact H) | exact H
          have Ny256 := Aside0.mk hy256
          clear hy256
          obtain ⟨c68, H⟩ := Z.ifp H
          have LMc68 := Aside0.mk c68
          clear c68
          obtain ⟨y261, hy261⟩ : ∃ y_ : List (List (S35)), y_ = (y253 ++ y256) := ⟨_, rfl⟩
          replace H : (if y261.length < 5864062014805 then ((some (y261 ++ [y250] : List (List (S35)))).bind fun y264 => (if 0 ≤ (wrap64 (t235 + 2)) then (if (wrap64 (t235 + 2)) ≤ (x7_3.length : Int) then ((some (x7_3.drop ((wrap64 (t235 + 2)) : Int).toNat : List (List (S35)))).bind fun y267 => (if y264.length + y267.length < 5864062014805 then (spec_l20Term.l1 k3 (y264 ++ y267) s0_0 t249) else (none))) else (none)) else (none))) else (none)) = some (r1, r2) := by first | (rw [hy261]; with_reducible exact H) | (have H2_ := (Option.bind_some _ _).symm.trans H; rw [hy261]; with_reducible exact H2_) | (have H2_ := (Option.bind_some _ _).symm.trans H; with_reducible exact H2_) | with_reducible exact H | (rw [hy261]; exact H) | exact H
          have Ny261 := Aside0.mk hy261
          clear hy261
          obtain ⟨c69, H⟩ := Z.ifp H
          have LMc69 := Aside0.mk c69
          clear c69
          obtain ⟨y264, hy264⟩ : ∃ y_ : List (List (S35)), y_ = (y261 ++ [y250]) := ⟨_, rfl⟩
          replace H : (if 0 ≤ (wrap64 (t235 + 2)) then (if (wrap64 (t235 + 2)) ≤ (x7_3.length : Int) then ((some (x7_3.drop ((wrap64 (t235 + 2)) : Int).toNat : List (List (S35)))).bind fun y267 => (if y264.length + y267.length < 5864062014805 then (spec_l20Term.l1 k3 (y264 ++ y267) s0_0 t249) else (none))) else (none)) else (none)) = some (r1, r2) := by first | (rw [hy264]; with_reducible exact H) | (have H2_ := (Option.bind_some _ _).symm.trans H; rw [hy264]; with_reducible exact H2_) | (have H2_ := (Option.bind_some _ _).symm.trans H; with_reducible exact H2_) | with_reducible exact H | (rw [hy264]; exact H) | exact H
          have Ny264 := Aside0.mk hy264
          clear hy264
          obtain ⟨ji70, hji70⟩ : ∃ j_ : Int, (wrap64 (t235 + 2)) = j_ := ⟨_, rfl⟩
          replace H : (if 0 ≤ (ji70) then (if (ji70) ≤ (x7_3.length : Int) then ((some (x7_3.drop ((ji70) : Int).toNat : List (List (S35)))).bind fun y267 => (if y264.length + y267.length < 5864062014805 then (spec_l20Term.l1 k3 (y264 ++ y267) s0_0 t249) else (none))) else (none)) else (none)) = some (r1, r2) := by first | (rw [hji70] at H; exact H) | (simp only [hji70] at H ⊢; exact H)
          (try rw [hji70] at A56)
          (try rw [hji70] at A64)
          have hji70w : (IntKind.i64.wrap (t235 + 2)) = ji70 := (i64_w _).trans hji70
          obtain ⟨c71, H⟩ := Z.ifp H
          have c71b0 := eq_true c71
          have c71b1 : decide (0 ≤ (ji70)) = true := decide_eq_true c71
          clear c71
          obtain ⟨c72, H⟩ := Z.ifp H
          have c72b0 := eq_true c72
          have c72b1 : decide ((ji70) ≤ (x7_3.length : Int)) = true := decide_eq_true c72
          clear c72
          obtain ⟨y267, hy267⟩ : ∃ y_ : List (List (S35)), y_ = (x7_3.drop ((ji70) : Int).toNat) := ⟨_, rfl⟩
          replace H : (if y264.length + y267.length < 5864062014805 then (spec_l20Term.l1 k3 (y264 ++ y267) s0_0 t249) else (none)) = some (r1, r2) := by first | (rw [hy267]; with_reducible exact H) | (have H2_ := (Option.bind_some _ _).symm.trans H; rw [hy267]; with_reducible exact H2_) | (have H2_ := (Option.bind_some _ _).symm.trans H; with_reducible exact H2_) | with_reducible exact H | (rw [hy267]; exact H) | exact H
          have Ny267 := Aside0.mk hy267
          clear hy267
          obtain ⟨c73, H⟩ := Z.ifp H
          have LMc73 := Aside0.mk c73
          clear c73
          obtain ⟨y272, hy272⟩ : ∃ y_ : List (List (S35)), y_ = (y264 ++ y267) := ⟨_, rfl⟩
          replace H : (spec_l20Term.l1 k3 y272 s0_0 t249) = some (r1, r2) := by first | (rw [hy272]; with_reducible exact H) | (have H2_ := (Option.bind_some _ _).symm.trans H; rw [hy272]; with_reducible exact H2_) | (have H2_ := (Option.bind_some _ _).symm.trans H; with_reducible exact H2_) | with_reducible exact H | (rw [hy272]; exact H) | exact H
          have Ny272 := Aside0.mk hy272
          clear hy272
          have H' := Aside0.mk H
          clear H
          obtain ⟨Ao74, co74, eo74⟩ := Kd.N_slice HO_7.out
          subst eo74
          try go_wp2_with (first | ((with_reducible refine gate_callee (f := 30) rfl ?_); refine goesL_ (some 72) rfl rfl Try.func30 (by kernel_rfl) rfl #[.pointer (some ⟨g, 0, none⟩), .int .i64 (wrap64 ((x7_3.length : Int) - 1))] rfl Z.ar ?_; (with_reducible refine (spec_l20Rd_pick.calls k3 g s0_0 x1001_3 (wrap64 ((x7_3.length : Int) - 1)) t235 t236 w0 _ ?q1 ?q2 A56.out).mono ?_); (case q1 => repeat (first | (with_reducible first | exact HI0.out | apply IsS56.alloc | apply IsS56.drewN | apply IsS56.drew | apply IsS56.set_1 | refine IsS56.far ?_ NB0_197.out _) | exact HI0.out)); (case q2 => repeat (first | (with_reducible first | exact HB.out | apply below_alloc | apply pw_below_drewN | apply below_drew1 | refine below_set ?_ (IsS56.ge HI0.out) | refine below_set ?_ GE197.out) | exact HB.out)); rintro e w75 ⟨rfl, hi, hb, hk⟩; refine ⟨_, rfl, ?_⟩; replace HO_7 := Aside0.mk (Kd.N_mono (Kd.N_keep (Kd.N_mono (ok := fun k_ => (((w.heap.size ≤ k_)) ∧ (k_ ≠ gb197 ∧ k_ ≠ g))) (by (with_reducible repeat (first | apply Kd.N_alloc | apply Kd.N_drewN | apply Kd.N_drew)); exact HO_7.out) (fun k_ hk_ => (⟨hk_, hk_.2.2⟩ : _ ∧ k_ ≠ g))) hk (fun _ h => h.2)) (fun _ h => h.1)); replace BK197 := Aside0.mk (KeepBut.blk hk (g' := gb197) (o := .cells #[.int .i64 a1_0, .slice A1_1 l1_1.length c1_1] 25 (0, 0)) (Z.bk BK197.out) NB197_0.out (by simp)); replace HK := Aside0.mk (KeepBut.trans (by repeat (first | (with_reducible first | exact HK.out | apply KeepBut.set_ | apply keep_drewN | apply keep_drew | apply keep_alloc | refine keep_far ?_ GW197.out _) | exact HK.out)) hk (.inl rfl)); replace HB := Aside0.mk (hb); replace HI0 := Aside0.mk (hi); (try clear hb); (try clear hb2); (try clear hk); (try clear hi)))
          replace HO_7 := Aside0.mk (Kd.N_drew HO_7.out)
          replace BK197 := Aside0.mk (blk_drew BK197.out)
          replace HI0 := Aside0.mk (IsS56.drew HI0.out)
          replace HK := Aside0.mk (keep_drew HK.out)
          replace HB := Aside0.mk (below_drew1 HB.out)
          have p240 : 0 ≤ (t235 : Int) := Z.od
          have q240 : t235 < (x7_3.length : Int) := Z.od
          obtain ⟨ad240, A240_0, c240_0, e240, hx240_0, hl240_0, hi240_0⟩ := at_L3 (Kd.N_reads' HO_7.out).2.2 t235 p240 q240
          cases e240
          obtain ⟨ce240, hce240, hMe240, hcc240⟩ := Kd.N_get HO_7.out [] t235 p240 (by first | exact q240 | exact Z.od | (have e_ := (Kd.N_reads' HO_7.out).1; omega))
          obtain ⟨ua240_0, uc240_0, rfl, ul240_0, ge240_0⟩ := Kd.FK_slice_open hMe240
          have hv240_0 := hcc240 0 _ rfl
          rw [Nat.add_zero, show ((Kd.slice 35 k35)).sz = 1 from rfl, Nat.mul_one] at hv240_0
          replace hv240_0 := Option.some.inj (hv240_0.symm.trans hx240_0)
          injection hv240_0 with hva_ hvn_ hvc_
          rw [hva_] at ge240_0
          rw [hvc_] at ul240_0
          have HL240_0 := Aside0.mk (show Kd.V k35 35 _ w.heap.size _ _ (rd_L3 x7_3 t235) from Kd.V_mk ul240_0 ge240_0)
          clear hva_ hvn_ hvc_ ge240_0 ul240_0
          clear hcc240 hce240
          have HR240_0 := Aside0.mk hi240_0
          have HC240_0 := Aside0.mk hl240_0
          clear hi240_0 hl240_0
          replace p240 := eq_true p240
          replace q240 := eq_true q240
          have p244 : 0 ≤ ((ji60) : Int) := Z.od
          have q244 : (ji60) < (x7_3.length : Int) := Z.od
          obtain ⟨ad244, A244_0, c244_0, e244, hx244_0, hl244_0, hi244_0⟩ := at_L3 (Kd.N_reads' HO_7.out).2.2 (ji60) p244 q244
          obtain rfl : ad240 = ad244 := (by injection e244)
          obtain ⟨ce244, hce244, hMe244, hcc244⟩ := Kd.N_get HO_7.out [] (ji60) p244 (by first | exact q244 | exact Z.od | (have e_ := (Kd.N_reads' HO_7.out).1; omega))
          obtain ⟨ua244_0, uc244_0, rfl, ul244_0, ge244_0⟩ := Kd.FK_slice_open hMe244
          have hv244_0 := hcc244 0 _ rfl
          rw [Nat.add_zero, show ((Kd.slice 35 k35)).sz = 1 from rfl, Nat.mul_one] at hv244_0
          replace hv244_0 := Option.some.inj (hv244_0.symm.trans hx244_0)
          injection hv244_0 with hva_ hvn_ hvc_
          rw [hva_] at ge244_0
          rw [hvc_] at ul244_0
          have HL244_0 := Aside0.mk (show Kd.V k35 35 _ w.heap.size _ _ (rd_L3 x7_3 (ji60)) from Kd.V_mk ul244_0 ge244_0)
          clear hva_ hvn_ hvc_ ge244_0 ul244_0
          clear hcc244 hce244
          have HR244_0 := Aside0.mk hi244_0
          have HC244_0 := Aside0.mk hl244_0
          clear hi244_0 hl244_0
          replace p244 := eq_true p244
          replace q244 := eq_true q244
          refine start_ (n := 19) (S := fun w' => w'.cell? (ad240.add (t235).toNat) = some (.slice A240_0 (rd_L3 x7_3 t235).length c240_0) ∧ w'.cell? (ad240.add ((ji60)).toNat) = some (.slice A244_0 (rd_L3 x7_3 (ji60)).length c244_0)) (ds := [11, 13, 16, 17]) #[false, false, false, false, false, false, false, false, false, false, false, false, false, false, false, false, false, false, false] (by kernel_rfl) rfl rfl ⟨hx240_0, hx244_0⟩ (fun hHeld => ?_); refine with_tabW spec_l20Term.tab11 spec_l20Term.bits11 (fun HT_ HW_ => ?_)
          generalize w75.drew = w76 at HO_7 BK197 HI0 HK HB HL240_0 HL244_0 HR240_0 HR244_0 hx240_0 hx244_0 hHeld ⊢
          refine Z.pv 1 74 19 2 HT_.out ?_
          refine Z.pv 2 75 19 6 HT_.out ?_
          refine Z.pv 3 76 19 14 HT_.out ?_
          refine Z.pv 6 79 19 78 HT_.out ?_
          refine Z.pv 7 80 19 206 HT_.out ?_
          refine Z.pv 8 81 19 462 HT_.out ?_
          refine Z.pv 9 82 19 974 HT_.out ?_
          refine Z.pv 12 85 19 5070 HT_.out ?_
          refine Z.t2 4 77 19 5086 HT_.out HW_.out hHeld ?_
          refine Z.t2 10 83 19 6110 HT_.out HW_.out hHeld ?_
          refine one_ (i := 0) (N := some 73) (Z.mb 19 6111) rfl rfl (one_of HT_.out (by kernel_rfl)) (by decide) (fun K hK => ?_)
          refine Kd.R_lit_step k35 _ 35 ?hg (N := 73) ?hd (xs := ([] : List (S35))) (inner := []) (ok := fun _ => True) (okp := fun _ => True) ?hr ?hp (fun _ hk => hk) trivial (Below.refl _ _) (Nat.le_refl _) (by simp) ?_; (case hd | hg => rfl); (case hr => first | (go_simp; done) | (go_simp; rfl)); (case hp => exact (Reps.none _ _))
          intro v238 w77 ho78 hb hg_ hnew_
          have HS0_ := (hb.cell (World.block_lt_of_cell? _ _ (hHeld.1))).trans (hHeld.1)
          have HS1_ := (hb.cell (World.block_lt_of_cell? _ _ (hHeld.2))).trans (hHeld.2)
          clear hg_ hnew_
          (first | rw [← Ny237.out] at ho78 | (simp only [Int.reduceToNat] at ho78; rw [← Ny237.out] at ho78))
          replace HO_7 := Aside0.mk (Kd.N_elder' (by (with_reducible repeat (first | apply Kd.N_alloc | apply Kd.N_drewN | apply Kd.N_drew)); exact HO_7.out) (Kd.R_base ho78) hb)
          replace HL240_0 := Aside0.mk (Kd.V_elder' (by (with_reducible repeat (first | apply Kd.V_alloc | apply Kd.V_drewN | apply Kd.V_drew)); exact HL240_0.out) (Kd.R_base ho78) hb)
          replace HL244_0 := Aside0.mk (Kd.V_elder' (by (with_reducible repeat (first | apply Kd.V_alloc | apply Kd.V_drewN | apply Kd.V_drew)); exact HL244_0.out) (Kd.R_base ho78) hb)
          have HO239 := Aside0.mk (Kd.R_lower (Kd.R_newM (M := fun k_ => (w.heap.size ≤ k_)) ho78 (keep_size (w := w) (g := g) (row := none) (by repeat (first | (with_reducible first | exact HK.out | apply KeepBut.set_ | apply keep_drewN | apply keep_drew | apply keep_alloc | refine keep_far ?_ GW197.out _) | exact HK.out))) (fun k_ h_ => h_)) (keep_size (w := w) (g := g) (row := none) (by repeat (first | (with_reducible first | exact HK.out | apply KeepBut.set_ | apply keep_drewN | apply keep_drew | apply keep_alloc | refine keep_far ?_ GW197.out _) | exact HK.out))))
          replace BK197 := Z.bb BK197 hb
          replace HR240_0 := Aside0.mk (Kd.C_below (by repeat (first | (with_reducible exact HR240_0.out) | (with_reducible refine Kd.C_alloc ?_ _) | (with_reducible refine Kd.C_drewN ?_ _) | (with_reducible refine Kd.C_drew ?_) | exact HR240_0.out)) hb)
          replace HR244_0 := Aside0.mk (Kd.C_below (by repeat (first | (with_reducible exact HR244_0.out) | (with_reducible refine Kd.C_alloc ?_ _) | (with_reducible refine Kd.C_drewN ?_ _) | (with_reducible refine Kd.C_drew ?_) | exact HR244_0.out)) hb)
          replace HK := Aside0.mk (KeepBut.trans (by repeat (first | (with_reducible first | exact HK.out | apply KeepBut.set_ | apply keep_drewN | apply keep_drew | apply keep_alloc | refine keep_far ?_ GW197.out _) | exact HK.out)) (KeepBut.of_below hb g none) (.inl rfl))
          replace HB := Aside0.mk (below_step (by repeat (first | (with_reducible first | exact HB.out | apply below_alloc | apply pw_below_drewN | apply below_drew1 | refine below_set ?_ (IsS56.ge HI0.out) | refine below_set ?_ GE197.out) | exact HB.out)) hb)
          replace HI0 := Aside0.mk (IsS56.below (by repeat (first | (with_reducible first | exact HI0.out | apply IsS56.alloc | apply IsS56.drewN | apply IsS56.drew | apply IsS56.set_1 | refine IsS56.far ?_ NB0_197.out _) | exact HI0.out)) hb)
          clear hb ho78
          refine hK.out _ _ ⟨HS0_, HS1_⟩ (fun hHeld => ?_)
          clear hK K
          refine Z.nm ?_
          refine one_ (i := 5) (N := some 78) (Z.mb 19 6143) rfl rfl (one_of HT_.out (by kernel_rfl)) (by decide) (fun K hK => ?_)
          refine Kd.R_append_rows_step k35 w.heap.size (by rfl) (.tmp 73) (.tmp 77) 26 35 (.agg #[(.int .i64 0), (.int .i64 0), (.int .i64 0)]) 24 rfl Try.underlying26 info35 rfl (by decide) (by omega) v238 y237 (rd_L3 x7_3 t235) _ _ _ (fun k_ => (w.heap.size ≤ k_)) (fun _ => False) rfl rfl ?aO ?aR (fun _ _ h => h) (fun _ h => h.elim) ?aF (Below.refl _ _) ?aS ?aL ?_
          (case aR => repeat (first | exact (by repeat (first | (with_reducible exact HR240_0.out) | (with_reducible refine Kd.C_alloc ?_ _) | (with_reducible refine Kd.C_drewN ?_ _) | (with_reducible refine Kd.C_drew ?_) | exact HR240_0.out)) | (with_reducible refine Kd.C_alloc ?_ _) | (with_reducible refine Kd.C_drewN ?_ _) | (with_reducible refine Kd.C_drew ?_)))
          (case aF => exact (fun k_ hk => (Nat.le_trans (keep_size (w := w) (g := g) (row := none) (by repeat (first | (with_reducible first | exact HK.out | apply KeepBut.set_ | apply keep_drewN | apply keep_drew | apply keep_alloc | refine keep_far ?_ GW197.out _) | exact HK.out))) hk)))
          (case aO => exact (by (with_reducible repeat (first | apply Kd.R_alloc | apply Kd.R_drewN | apply Kd.R_drew)); exact Kd.R_mono HO239.out (fun _ hk => hk.1)))
          (case aS => exact (keep_size (w := w) (g := g) (row := none) (by repeat (first | (with_reducible first | exact HK.out | apply KeepBut.set_ | apply keep_drewN | apply keep_drew | apply keep_alloc | refine keep_far ?_ GW197.out _) | exact HK.out))))
          (case aL => have := LMc59.out; omega)
          intro v242 w79 ho hb hg hat
          have hne_ : some ad240.block ≠ (v238 : Value).ownBlock := by obtain ⟨cs_, hc_⟩ := Kd.N_typed HO_7.out ad240.block (by simp [Value.ownBlock]); exact Kd.R_ne HO239.out hc_ (by decide)
          have HS0_ := cell_grown hg hHeld.1 (by rw [add_block]; exact hne_)
          have HS1_ := cell_grown hg hHeld.2 (by rw [add_block]; exact hne_)
          clear hne_
          rw [← Ny241.out] at ho
          replace HO_7 := Aside0.mk (Kd.N_afterv (ok := (fun k_ => (w.heap.size ≤ k_) ∧ k_ ≠ gb197 ∧ k_ ≠ g)) (by (with_reducible repeat (first | apply Kd.N_alloc | apply Kd.N_drewN | apply Kd.N_drew)); exact HO_7.out) hg hat)
          replace BK197 := Aside0.mk (blk_grown (g := gb197) (o := .cells #[.int .i64 a1_0, .slice A1_1 l1_1.length c1_1] 25 (0, 0)) (Z.bk BK197.out) hg (Kd.R_ne HO239.out BK197.out (by decide)))
          replace HL240_0 := Aside0.mk (Kd.V_afterv (ok := (fun k_ => (w.heap.size ≤ k_) ∧ some k_ ≠ (.slice (some ad240) x7_3.length co74 : Value).ownBlock ∧ k_ ≠ gb197 ∧ k_ ≠ g)) (by (with_reducible repeat (first | apply Kd.V_alloc | apply Kd.V_drewN | apply Kd.V_drew)); exact Kd.V_mono HL240_0.out (fun _ hk => ⟨⟨hk.1.1.1, ⟨hk.1.2, ⟨hk.1.1.2.1, hk.1.1.2.2⟩⟩⟩, hk.2⟩)) hg hat)
          replace HL244_0 := Aside0.mk (Kd.V_afterv (ok := (fun k_ => (w.heap.size ≤ k_) ∧ some k_ ≠ (.slice (some ad240) x7_3.length co74 : Value).ownBlock ∧ k_ ≠ gb197 ∧ k_ ≠ g)) (by (with_reducible repeat (first | apply Kd.V_alloc | apply Kd.V_drewN | apply Kd.V_drew)); exact Kd.V_mono HL244_0.out (fun _ hk => ⟨⟨hk.1.1.1, ⟨hk.1.2, ⟨hk.1.1.2.1, hk.1.1.2.2⟩⟩⟩, hk.2⟩)) hg hat)
          replace HB := Aside0.mk (below_weaken (by repeat (first | (with_reducible first | exact HB.out | apply below_alloc | apply pw_below_drewN | apply below_drew1 | refine below_set ?_ (IsS56.ge HI0.out) | refine below_set ?_ GE197.out) | exact HB.out)) HL.out hb)
          replace HI0 := Aside0.mk (IsS56.grown (by repeat (first | (with_reducible first | exact HI0.out | apply IsS56.alloc | apply IsS56.drewN | apply IsS56.drew | apply IsS56.set_1 | refine IsS56.far ?_ NB0_197.out _) | exact HI0.out)) hg (IsS56.own_ne HI0.out HO239.out (by decide)))
          replace HK := Aside0.mk (KeepBut.trans (by repeat (first | (with_reducible first | exact HK.out | apply KeepBut.set_ | apply keep_drewN | apply keep_drew | apply keep_alloc | refine keep_far ?_ GW197.out _) | exact HK.out)) (KeepBut.of_grown hg g) (Kd.R_base2 HO239.out))
          have HO243 := Aside0.mk (ho)
          clear HO239
          clear ho hb hg hat
          refine hK.out _ _ ⟨HS0_, HS1_⟩ (fun hHeld => ?_)
          clear hK K
          refine Z.nm ?_
          refine last_ (i := 11) (N := some 84) #[true, true, true, true, true, true, true, true, true, true, true, true, true, false, false, false, false, false, false] rfl rfl (one_of HT_.out (by kernel_rfl)) (by decide) (fun K hK => ?_)
          refine Kd.R_append_rows_step k35 w.heap.size (by rfl) (.tmp 78) (.tmp 83) 26 35 (.agg #[(.int .i64 0), (.int .i64 0), (.int .i64 0)]) 24 rfl Try.underlying26 info35 rfl (by decide) (by omega) v242 y241 (rd_L3 x7_3 (ji60)) _ _ _ (fun k_ => (w.heap.size ≤ k_)) (fun _ => False) rfl rfl ?aO ?aR (fun _ _ h => h) (fun _ h => h.elim) ?aF (Below.refl _ _) ?aS ?aL ?_
          (case aR => repeat (first | exact ((Kd.V_reads' (by (with_reducible repeat (first | apply Kd.V_alloc | apply Kd.V_drewN | apply Kd.V_drew)); exact HL244_0.out)).2.2) | (with_reducible refine Kd.C_alloc ?_ _) | (with_reducible refine Kd.C_drewN ?_ _) | (with_reducible refine Kd.C_drew ?_)))
          (case aF => exact (fun k_ hk => (Nat.le_trans (keep_size (w := w) (g := g) (row := none) (by repeat (first | (with_reducible first | exact HK.out | apply KeepBut.set_ | apply keep_drewN | apply keep_drew | apply keep_alloc | refine keep_far ?_ GW197.out _) | exact HK.out))) hk)))
          (case aO => exact (by (with_reducible repeat (first | apply Kd.R_alloc | apply Kd.R_drewN | apply Kd.R_drew)); exact HO243.out))
          (case aS => exact (keep_size (w := w) (g := g) (row := none) (by repeat (first | (with_reducible first | exact HK.out | apply KeepBut.set_ | apply keep_drewN | apply keep_drew | apply keep_alloc | refine keep_far ?_ GW197.out _) | exact HK.out))))
          (case aL => have := LMc63.out; omega)
          intro v246 w80 ho hb hg hat
          rw [← Ny245.out] at ho
          replace HO_7 := Aside0.mk (Kd.N_afterv (ok := (fun k_ => (w.heap.size ≤ k_) ∧ k_ ≠ gb197 ∧ k_ ≠ g)) (by (with_reducible repeat (first | apply Kd.N_alloc | apply Kd.N_drewN | apply Kd.N_drew)); exact HO_7.out) hg hat)
          replace BK197 := Aside0.mk (blk_grown (g := gb197) (o := .cells #[.int .i64 a1_0, .slice A1_1 l1_1.length c1_1] 25 (0, 0)) (Z.bk BK197.out) hg (Kd.R_ne HO243.out BK197.out (by decide)))
          replace HL240_0 := Aside0.mk (Kd.V_afterv (ok := (fun k_ => (w.heap.size ≤ k_) ∧ some k_ ≠ (.slice (some ad240) x7_3.length co74 : Value).ownBlock ∧ k_ ≠ gb197 ∧ k_ ≠ g)) (by (with_reducible repeat (first | apply Kd.V_alloc | apply Kd.V_drewN | apply Kd.V_drew)); exact HL240_0.out) hg hat)
          replace HL244_0 := Aside0.mk (Kd.V_afterv (ok := (fun k_ => (w.heap.size ≤ k_) ∧ some k_ ≠ (.slice (some ad240) x7_3.length co74 : Value).ownBlock ∧ k_ ≠ gb197 ∧ k_ ≠ g)) (by (with_reducible repeat (first | apply Kd.V_alloc | apply Kd.V_drewN | apply Kd.V_drew)); exact HL244_0.out) hg hat)
          replace HB := Aside0.mk (below_weaken (by repeat (first | (with_reducible first | exact HB.out | apply below_alloc | apply pw_below_drewN | apply below_drew1 | refine below_set ?_ (IsS56.ge HI0.out) | refine below_set ?_ GE197.out) | exact HB.out)) HL.out hb)
          replace HI0 := Aside0.mk (IsS56.grown (by repeat (first | (with_reducible first | exact HI0.out | apply IsS56.alloc | apply IsS56.drewN | apply IsS56.drew | apply IsS56.set_1 | refine IsS56.far ?_ NB0_197.out _) | exact HI0.out)) hg (IsS56.own_ne HI0.out HO243.out (by decide)))
          replace HK := Aside0.mk (KeepBut.trans (by repeat (first | (with_reducible first | exact HK.out | apply KeepBut.set_ | apply keep_drewN | apply keep_drew | apply keep_alloc | refine keep_far ?_ GW197.out _) | exact HK.out)) (KeepBut.of_grown hg g) (Kd.R_base2 HO243.out))
          have HO247 := Aside0.mk (ho)
          clear HO243
          clear ho hb hg hat
          refine hK.out _ _ ?_
          clear hK K
          refine Z.nm ?_
          refine last_ (i := 13) (N := some 86) #[true, true, true, true, true, true, true, true, true, true, true, true, true, true, false, false, false, false, false] rfl rfl (one_of HT_.out (by kernel_rfl)) (by decide) (fun K hK => ?_)
          refine goes_ Try.func30 (by kernel_rfl) rfl #[.pointer (some ⟨g, 0, none⟩), .int .i64 2] (by rfl) rfl rfl Z.ar ?_
          with_reducible refine (spec_l20Rd_pick.calls k3 g s0_0 t236 2 t248 t249 w0 _ ?q1 ?q2 A64.out).mono ?_
          (case q1 => repeat (first | (with_reducible first | exact HI0.out | apply IsS56.alloc | apply IsS56.drewN | apply IsS56.drew | apply IsS56.set_1 | refine IsS56.far ?_ NB0_197.out _) | exact HI0.out))
          (case q2 => repeat (first | (with_reducible first | exact HB.out | apply below_alloc | apply pw_below_drewN | apply below_drew1 | refine below_set ?_ (IsS56.ge HI0.out) | refine below_set ?_ GE197.out) | exact HB.out))
          rintro e w81 ⟨rfl, hi, hb, hk⟩
          refine ⟨_, rfl, ?_⟩
          replace HO_7 := Aside0.mk (Kd.N_mono (Kd.N_keep (Kd.N_mono (ok := fun k_ => ((((w.heap.size ≤ k_)) ∧ (k_ ≠ gb197 ∧ k_ ≠ g)) ∧ some k_ ≠ (v246 : Value).ownBlock)) (by (with_reducible repeat (first | apply Kd.N_alloc | apply Kd.N_drewN | apply Kd.N_drew)); exact HO_7.out) (fun k_ hk_ => (⟨hk_, hk_.1.2.2⟩ : _ ∧ k_ ≠ g))) hk (fun _ h => h.2)) (fun _ h => h.1))
          replace BK197 := Aside0.mk (KeepBut.blk hk (g' := gb197) (o := .cells #[.int .i64 a1_0, .slice A1_1 l1_1.length c1_1] 25 (0, 0)) (Z.bk BK197.out) NB197_0.out (by simp))
          replace HL240_0 := Aside0.mk (Kd.V_mono (Kd.V_keep (Kd.V_mono (ok := fun k_ => ((((w.heap.size ≤ k_)) ∧ (some k_ ≠ (.slice (some ad240) x7_3.length co74 : Value).ownBlock ∧ (k_ ≠ gb197 ∧ k_ ≠ g))) ∧ some k_ ≠ (v246 : Value).ownBlock)) (by (with_reducible repeat (first | apply Kd.V_alloc | apply Kd.V_drewN | apply Kd.V_drew)); exact HL240_0.out) (fun k_ hk_ => (⟨hk_, hk_.1.2.2.2⟩ : _ ∧ k_ ≠ g))) hk (fun _ h => h.2)) (fun _ h => h.1))
          replace HL244_0 := Aside0.mk (Kd.V_mono (Kd.V_keep (Kd.V_mono (ok := fun k_ => ((((w.heap.size ≤ k_)) ∧ (some k_ ≠ (.slice (some ad240) x7_3.length co74 : Value).ownBlock ∧ (k_ ≠ gb197 ∧ k_ ≠ g))) ∧ some k_ ≠ (v246 : Value).ownBlock)) (by (with_reducible repeat (first | apply Kd.V_alloc | apply Kd.V_drewN | apply Kd.V_drew)); exact HL244_0.out) (fun k_ hk_ => (⟨hk_, hk_.1.2.2.2⟩ : _ ∧ k_ ≠ g))) hk (fun _ h => h.2)) (fun _ h => h.1))
          replace HO247 := Aside0.mk (Kd.R_mono (Kd.R_keep (IsS56.apart (show IsS56 w0 _ g s0_0 t236 from by repeat (first | (with_reducible first | exact HI0.out | apply IsS56.alloc | apply IsS56.drewN | apply IsS56.drew | apply IsS56.set_1 | refine IsS56.far ?_ NB0_197.out _) | exact HI0.out)) (by (with_reducible repeat (first | apply Kd.R_alloc | apply Kd.R_drewN | apply Kd.R_drew)); exact HO247.out) (by decide)) hk (fun _ h => h.2)) (fun _ h => h.1))
          replace HK := Aside0.mk (KeepBut.trans (by repeat (first | (with_reducible first | exact HK.out | apply KeepBut.set_ | apply keep_drewN | apply keep_drew | apply keep_alloc | refine keep_far ?_ GW197.out _) | exact HK.out)) hk (.inl rfl))
          replace HB := Aside0.mk (hb)
          replace HI0 := Aside0.mk (hi)
          (try clear hb)
          (try clear hb2)
          (try clear hk)
          (try clear hi)
          refine hK.out _ _ ?_
          clear hK K
          refine Z.nm ?_
          refine Z.pv 14 87 19 32767 HT_.out ?_
          refine Z.pv 15 88 19 65535 HT_.out ?_
          refine last_ (i := 16) (N := some 89) #[true, true, true, true, true, true, true, true, true, true, true, true, true, true, true, true, true, false, false] rfl rfl (one_of HT_.out (by kernel_rfl)) (by decide) (fun K hK => ?_)
          refine value_ (w1 := ?_) (v := ?_) (by rfl) rfl ?_ ?_
          rotate_left 2
          ·go_simp
           constructor
           ·rfl
           ·rfl
          refine hK.out _ _ ?_
          clear hK K
          refine Z.nm ?_
          refine last_ (i := 17) (N := some 90) #[true, true, true, true, true, true, true, true, true, true, true, true, true, true, true, true, true, true, false] rfl rfl (one_of HT_.out (by kernel_rfl)) (by decide) (fun K hK => ?_)
          refine Kd.R_append_step k35 w.heap.size (by rfl) (.tmp 84) (.tmp 89) 26 35 (.agg #[(.int .i64 0), (.int .i64 0), (.int .i64 0)]) 24 rfl Try.underlying26 info35 rfl (by decide) (by omega) v246 y245 (⟨wrap64 (1 + t248), 0, 0⟩ : S35) [.int .i64 (wrap64 (1 + t248)), .int .i64 0, .int .i64 0] (fun k_ => (w.heap.size ≤ k_)) (fun _ => False) rfl rfl ?aP (fun _ hk => hk.elim) ?aF ?aO (Below.refl _ _) ?aS ?aL ?_
          (case aP => exact k35_mkM _ _ _ (⟨wrap64 (1 + t248), 0, 0⟩ : S35))
          (case aF => exact (fun k_ hk => (Nat.le_trans (keep_size (w := w) (g := g) (row := none) (by repeat (first | (with_reducible first | exact HK.out | apply KeepBut.set_ | apply keep_drewN | apply keep_drew | apply keep_alloc | refine keep_far ?_ GW197.out _) | exact HK.out))) hk)))
          (case aO => exact (by (with_reducible repeat (first | apply Kd.R_alloc | apply Kd.R_drewN | apply Kd.R_drew)); exact HO247.out))
          (case aS => exact (keep_size (w := w) (g := g) (row := none) (by repeat (first | (with_reducible first | exact HK.out | apply KeepBut.set_ | apply keep_drewN | apply keep_drew | apply keep_alloc | refine keep_far ?_ GW197.out _) | exact HK.out))))
          (case aL => have := LMc65.out; omega)
          intro v251 w82 ho hb hg hat
          rw [← Ny250.out] at ho
          replace HO_7 := Aside0.mk (Kd.N_afterv (ok := (fun k_ => (w.heap.size ≤ k_) ∧ k_ ≠ gb197 ∧ k_ ≠ g)) (by (with_reducible repeat (first | apply Kd.N_alloc | apply Kd.N_drewN | apply Kd.N_drew)); exact HO_7.out) hg hat)
          replace BK197 := Aside0.mk (blk_grown (g := gb197) (o := .cells #[.int .i64 a1_0, .slice A1_1 l1_1.length c1_1] 25 (0, 0)) (Z.bk BK197.out) hg (Kd.R_ne HO247.out BK197.out (by decide)))
          replace HL240_0 := Aside0.mk (Kd.V_afterv (ok := (fun k_ => (w.heap.size ≤ k_) ∧ some k_ ≠ (.slice (some ad240) x7_3.length co74 : Value).ownBlock ∧ k_ ≠ gb197 ∧ k_ ≠ g)) (by (with_reducible repeat (first | apply Kd.V_alloc | apply Kd.V_drewN | apply Kd.V_drew)); exact HL240_0.out) hg hat)
          replace HL244_0 := Aside0.mk (Kd.V_afterv (ok := (fun k_ => (w.heap.size ≤ k_) ∧ some k_ ≠ (.slice (some ad240) x7_3.length co74 : Value).ownBlock ∧ k_ ≠ gb197 ∧ k_ ≠ g)) (by (with_reducible repeat (first | apply Kd.V_alloc | apply Kd.V_drewN | apply Kd.V_drew)); exact HL244_0.out) hg hat)
          replace HB := Aside0.mk (below_weaken (by repeat (first | (with_reducible first | exact HB.out | apply below_alloc | apply pw_below_drewN | apply below_drew1 | refine below_set ?_ (IsS56.ge HI0.out) | refine below_set ?_ GE197.out) | exact HB.out)) HL.out hb)
          replace HI0 := Aside0.mk (IsS56.grown (by repeat (first | (with_reducible first | exact HI0.out | apply IsS56.alloc | apply IsS56.drewN | apply IsS56.drew | apply IsS56.set_1 | refine IsS56.far ?_ NB0_197.out _) | exact HI0.out)) hg (IsS56.own_ne HI0.out HO247.out (by decide)))
          replace HK := Aside0.mk (KeepBut.trans (by repeat (first | (with_reducible first | exact HK.out | apply KeepBut.set_ | apply keep_drewN | apply keep_drew | apply keep_alloc | refine keep_far ?_ GW197.out _) | exact HK.out)) (KeepBut.of_grown hg g) (Kd.R_base2 HO247.out))
          have HO252 := Aside0.mk (ho)
          clear HO247
          clear ho hb hg hat
          refine hK.out _ _ ?_
          clear hK K
          refine Z.nm ?_
          refine Z.pv 18 11 19 524287 HT_.out ?_
          refine done_ (done_of HT_.out (by kernel_rfl)) ?_
          try go_wp2_with (first | ((with_reducible refine gate_dst (N := 91) rfl ?_); refine Kd.N_lit (Kd.slice 35 k35) _ 26 ?hg (N' := 91) ?hd (xs := ([] : List (List (S35)))) (inner := []) (ok := (fun k_ => (w.heap.size ≤ k_) ∧ some k_ ≠ (.slice (some ad240) x7_3.length co74 : Value).ownBlock ∧ some k_ ≠ (v251 : Value).ownBlock ∧ k_ ≠ gb197 ∧ k_ ≠ g)) (okp := (fun k_ => (w.heap.size ≤ k_) ∧ some k_ ≠ (.slice (some ad240) x7_3.length co74 : Value).ownBlock ∧ some k_ ≠ (v251 : Value).ownBlock ∧ k_ ≠ gb197 ∧ k_ ≠ g)) ?hr ?hp (fun _ hk => hk) ((show ∀ k_, w82.heap.size ≤ k_ → (fun k_ => (w.heap.size ≤ k_) ∧ some k_ ≠ (.slice (some ad240) x7_3.length co74 : Value).ownBlock ∧ some k_ ≠ (v251 : Value).ownBlock ∧ k_ ≠ gb197 ∧ k_ ≠ g) k_ from fun k_ hk => ⟨(Nat.le_trans (keep_size (w := w) (g := g) (row := none) (by repeat (first | (with_reducible first | exact HK.out | apply KeepBut.set_ | apply keep_drewN | apply keep_drew | apply keep_alloc | refine keep_far ?_ GW197.out _) | exact HK.out))) hk), Kd.fresh' (Kd.N_lt (by (with_reducible repeat (first | apply Kd.N_alloc | apply Kd.N_drewN | apply Kd.N_drew)); exact HO_7.out)) k_ hk, Kd.fresh' (Kd.R_lt (by (with_reducible repeat (first | apply Kd.R_alloc | apply Kd.R_drewN | apply Kd.R_drew)); exact HO252.out)) k_ hk, Kd.freshB (g := gb197) (o := .cells #[.int .i64 a1_0, .slice A1_1 l1_1.length c1_1] 25 (0, 0)) (Z.bk BK197.out) k_ hk, IsS56.fresh (by repeat (first | (with_reducible first | exact HI0.out | apply IsS56.alloc | apply IsS56.drewN | apply IsS56.drew | apply IsS56.set_1 | refine IsS56.far ?_ NB0_197.out _) | exact HI0.out)) k_ hk⟩) _ (Nat.le_refl _)) (Below.refl _ _) (Nat.le_refl _) (by simp) ?_; (case hd | hg => rfl); (case hr => first | (go_simp; done) | (go_simp; rfl)); (case hp => exact (Reps.none _ _)); intro v254 w83 ho84 hb hg_ hnew_; clear hg_ hnew_; (first | rw [← Ny253.out] at ho84 | (simp only [Int.reduceToNat] at ho84; rw [← Ny253.out] at ho84)); replace HO_7 := Aside0.mk (Kd.N_elder' (by (with_reducible repeat (first | apply Kd.N_alloc | apply Kd.N_drewN | apply Kd.N_drew)); exact HO_7.out) (Kd.N_base ho84) hb); replace HL240_0 := Aside0.mk (Kd.V_elder' (by (with_reducible repeat (first | apply Kd.V_alloc | apply Kd.V_drewN | apply Kd.V_drew)); exact HL240_0.out) (Kd.N_base ho84) hb); replace HL244_0 := Aside0.mk (Kd.V_elder' (by (with_reducible repeat (first | apply Kd.V_alloc | apply Kd.V_drewN | apply Kd.V_drew)); exact HL244_0.out) (Kd.N_base ho84) hb); replace HO252 := Aside0.mk (Kd.R_below (by (with_reducible repeat (first | apply Kd.R_alloc | apply Kd.R_drewN | apply Kd.R_drew)); exact HO252.out) hb); have HO255 := Aside0.mk (Kd.N_lower ho84 (keep_size (w := w) (g := g) (row := none) (by repeat (first | (with_reducible first | exact HK.out | apply KeepBut.set_ | apply keep_drewN | apply keep_drew | apply keep_alloc | refine keep_far ?_ GW197.out _) | exact HK.out)))); replace BK197 := Z.bb BK197 hb; replace HK := Aside0.mk (KeepBut.trans (by repeat (first | (with_reducible first | exact HK.out | apply KeepBut.set_ | apply keep_drewN | apply keep_drew | apply keep_alloc | refine keep_far ?_ GW197.out _) | exact HK.out)) (KeepBut.of_below hb g none) (.inl rfl)); replace HB := Aside0.mk (below_step (by repeat (first | (with_reducible first | exact HB.out | apply below_alloc | apply pw_below_drewN | apply below_drew1 | refine below_set ?_ (IsS56.ge HI0.out) | refine below_set ?_ GE197.out) | exact HB.out)) hb); replace HI0 := Aside0.mk (IsS56.below (by repeat (first | (with_reducible first | exact HI0.out | apply IsS56.alloc | apply IsS56.drewN | apply IsS56.drew | apply IsS56.set_1 | refine IsS56.far ?_ NB0_197.out _) | exact HI0.out)) hb); clear hb ho84; have q85 : (t235 : Int) ≤ ((x7_3.length : Int) : Int) := Z.od; obtain ⟨i085, hi085, _, hsz85, _⟩ := info_parts info26; have hroom85 : x7_3.length ≤ co74 := (Kd.N_reads' HO_7.out).2.1; have hC85 : Kd.F (Kd.slice 35 k35) _ _ (some ad240) x7_3.length x7_3 := (Kd.V_at (base := w.heap.size) (Kd.N_V HO_7.out)).2.2; have hcut85 := cut_to (P := Try.prog) 67 26 .i64 Try.underlying67 hi085 (some ad240) x7_3.length co74 t235 (Z.od) q85 hroom85; have hr85 := Kd.F_take (m := (t235 : Int).toNat) hC85 (by omega); have hy85 : y256.length = (t235 : Int).toNat := (by rw [Ny256.out, List.length_take]; omega); rw [← Ny256.out] at hr85; rw [← hy85] at hcut85; have HO260 := Aside0.mk (show Kd.V (Kd.slice 35 k35) 26 _ w.heap.size _ (.slice (some ad240) y256.length co74) y256 from Kd.V_mk (by omega) hr85); have HC260 := Aside0.mk (show y256.length ≤ co74 from by omega); clear hr85 hC85 hroom85 hi085 hsz85; have KY85 := Aside0.mk hy85; clear hy85; replace q85 := eq_true q85) | ((with_reducible refine gate_builtin (b := .append) (xs := #[.tmp 91, .tmp 94]) rfl ?_); at_builtin; refine Kd.N_append_rows (Kd.slice 35 k35) w.heap.size rfl (.tmp 91) (.tmp 94) 67 26 (.slice none 0 0) 24 rfl Try.underlying67 info26 rfl (by decide) (by omega) v254 y253 y256 _ _ _ (fun k_ => (w.heap.size ≤ k_) ∧ some k_ ≠ (v251 : Value).ownBlock ∧ k_ ≠ gb197 ∧ k_ ≠ g) (fun k_ => ((fun k_ => (w.heap.size ≤ k_) ∧ some k_ ≠ (v251 : Value).ownBlock ∧ k_ ≠ gb197 ∧ k_ ≠ g)) k_ ∧ some k_ ≠ (v254 : Value).ownBlock) rfl rfl ?aO ?aR (fun _ hk => hk) ?aF (Below.refl _ _) ?aS ?aL ?_; (case aR => exact (by skip; exact Kd.V_F (Kd.V_mono (ok' := (fun k_ => ((fun k_ => (w.heap.size ≤ k_) ∧ some k_ ≠ (v251 : Value).ownBlock ∧ k_ ≠ gb197 ∧ k_ ≠ g)) k_ ∧ some k_ ≠ (v254 : Value).ownBlock)) (HO260.out) (fun k_ hk => ⟨⟨hk.1.1.1, ⟨hk.1.2, ⟨hk.1.1.2.1, hk.1.1.2.2⟩⟩⟩, hk.2⟩)))); (case aF => exact (fun k_ hk => ⟨(Nat.le_trans (keep_size (w := w) (g := g) (row := none) (by repeat (first | (with_reducible first | exact HK.out | apply KeepBut.set_ | apply keep_drewN | apply keep_drew | apply keep_alloc | refine keep_far ?_ GW197.out _) | exact HK.out))) hk), Kd.fresh' (Kd.R_lt (by (with_reducible repeat (first | apply Kd.R_alloc | apply Kd.R_drewN | apply Kd.R_drew)); exact HO252.out)) k_ hk, Kd.freshB (g := gb197) (o := .cells #[.int .i64 a1_0, .slice A1_1 l1_1.length c1_1] 25 (0, 0)) (Z.bk BK197.out) k_ hk, IsS56.fresh (by repeat (first | (with_reducible first | exact HI0.out | apply IsS56.alloc | apply IsS56.drewN | apply IsS56.drew | apply IsS56.set_1 | refine IsS56.far ?_ NB0_197.out _) | exact HI0.out)) k_ hk⟩)); (case aO => exact (by (with_reducible repeat (first | apply Kd.N_alloc | apply Kd.N_drewN | apply Kd.N_drew)); exact Kd.N_mono HO255.out (fun _ hk => ⟨hk.1, ⟨hk.2.2.1, ⟨hk.2.2.2.1, hk.2.2.2.2⟩⟩⟩))); (case aS => exact (keep_size (w := w) (g := g) (row := none) (by repeat (first | (with_reducible first | exact HK.out | apply KeepBut.set_ | apply keep_drewN | apply keep_drew | apply keep_alloc | refine keep_far ?_ GW197.out _) | exact HK.out)))); (case aL => have := LMc68.out; omega); intro v262 w86 ho hb hg hat; rw [← Ny261.out] at ho; replace HO_7 := Aside0.mk (Kd.N_afterv (ok := (fun k_ => (w.heap.size ≤ k_) ∧ some k_ ≠ (v251 : Value).ownBlock ∧ k_ ≠ gb197 ∧ k_ ≠ g)) (by (with_reducible repeat (first | apply Kd.N_alloc | apply Kd.N_drewN | apply Kd.N_drew)); exact Kd.N_mono HO_7.out (fun _ hk => ⟨⟨hk.1.1.1, ⟨hk.1.2, ⟨hk.1.1.2.1, hk.1.1.2.2⟩⟩⟩, hk.2⟩)) hg hat); replace BK197 := Aside0.mk (blk_grown (g := gb197) (o := .cells #[.int .i64 a1_0, .slice A1_1 l1_1.length c1_1] 25 (0, 0)) (Z.bk BK197.out) hg (Kd.N_ne HO255.out BK197.out (by decide))); replace HL240_0 := Aside0.mk (Kd.V_afterv (ok := (fun k_ => (w.heap.size ≤ k_) ∧ some k_ ≠ (.slice (some ad240) x7_3.length co74 : Value).ownBlock ∧ some k_ ≠ (v251 : Value).ownBlock ∧ k_ ≠ gb197 ∧ k_ ≠ g)) (by (with_reducible repeat (first | apply Kd.V_alloc | apply Kd.V_drewN | apply Kd.V_drew)); exact Kd.V_mono HL240_0.out (fun _ hk => ⟨⟨hk.1.1.1, ⟨hk.1.1.2.1, ⟨hk.1.2, ⟨hk.1.1.2.2.1, hk.1.1.2.2.2⟩⟩⟩⟩, hk.2⟩)) hg hat); replace HL244_0 := Aside0.mk (Kd.V_afterv (ok := (fun k_ => (w.heap.size ≤ k_) ∧ some k_ ≠ (.slice (some ad240) x7_3.length co74 : Value).ownBlock ∧ some k_ ≠ (v251 : Value).ownBlock ∧ k_ ≠ gb197 ∧ k_ ≠ g)) (by (with_reducible repeat (first | apply Kd.V_alloc | apply Kd.V_drewN | apply Kd.V_drew)); exact Kd.V_mono HL244_0.out (fun _ hk => ⟨⟨hk.1.1.1, ⟨hk.1.1.2.1, ⟨hk.1.2, ⟨hk.1.1.2.2.1, hk.1.1.2.2.2⟩⟩⟩⟩, hk.2⟩)) hg hat); replace HO252 := Aside0.mk (Kd.R_over' (by (with_reducible repeat (first | apply Kd.R_alloc | apply Kd.R_drewN | apply Kd.R_drew)); exact HO252.out) (Kd.N_typed (by (with_reducible repeat (first | apply Kd.N_alloc | apply Kd.N_drewN | apply Kd.N_drew)); exact HO255.out)) (by decide) hg); replace HO260 := Aside0.mk (Kd.V_afterv (ok := (fun k_ => (w.heap.size ≤ k_) ∧ some k_ ≠ (v251 : Value).ownBlock ∧ k_ ≠ gb197 ∧ k_ ≠ g)) (by (with_reducible repeat (first | apply Kd.V_alloc | apply Kd.V_drewN | apply Kd.V_drew)); exact Kd.V_mono HO260.out (fun _ hk => ⟨⟨hk.1.1.1, ⟨hk.1.2, ⟨hk.1.1.2.1, hk.1.1.2.2⟩⟩⟩, hk.2⟩)) hg hat); replace HB := Aside0.mk (below_weaken (by repeat (first | (with_reducible first | exact HB.out | apply below_alloc | apply pw_below_drewN | apply below_drew1 | refine below_set ?_ (IsS56.ge HI0.out) | refine below_set ?_ GE197.out) | exact HB.out)) HL.out hb); replace HI0 := Aside0.mk (IsS56.grown (by repeat (first | (with_reducible first | exact HI0.out | apply IsS56.alloc | apply IsS56.drewN | apply IsS56.drew | apply IsS56.set_1 | refine IsS56.far ?_ NB0_197.out _) | exact HI0.out)) hg (IsS56.own_neN HI0.out HO255.out (by decide))); replace HK := Aside0.mk (KeepBut.trans (by repeat (first | (with_reducible first | exact HK.out | apply KeepBut.set_ | apply keep_drewN | apply keep_drew | apply keep_alloc | refine keep_far ?_ GW197.out _) | exact HK.out)) (KeepBut.of_grown hg g) (Kd.N_base2 HO255.out)); have HO263 := Aside0.mk (ho); clear HO255; clear ho hb hg hat; obtain ⟨Ao88, co88, eo88⟩ := Kd.R_slice HO252.out; subst eo88) | ((with_reducible refine gate_builtin (b := .append) (xs := #[.tmp 96, .tmp 98]) rfl ?_); at_builtin; refine Kd.N_append (Kd.slice 35 k35) w.heap.size rfl (.tmp 96) (.tmp 98) 67 26 (.slice none 0 0) 24 rfl Try.underlying67 info26 rfl (by decide) (by omega) v262 y261 y250 [.slice Ao88 y250.length co88] (fun k_ => (w.heap.size ≤ k_) ∧ k_ ≠ gb197 ∧ k_ ≠ g) (fun k_ => ((fun k_ => (w.heap.size ≤ k_) ∧ k_ ≠ gb197 ∧ k_ ≠ g)) k_ ∧ some k_ ≠ (v262 : Value).ownBlock) rfl rfl ?aP (fun _ hk => hk) ?aF ?aO (Below.refl _ _) ?aS ?aL ?_; (case aP => exact (Kd.FK_slice_mk (Kd.R_reads' (Kd.R_mono (ok' := (fun k_ => ((fun k_ => (w.heap.size ≤ k_) ∧ k_ ≠ gb197 ∧ k_ ≠ g)) k_ ∧ some k_ ≠ (v262 : Value).ownBlock)) (IsS56.apart HI0.out (Kd.R_types (Kd.R_apart' (HO252.out) (Kd.N_typed HO263.out) (by decide)) BK197.out (by decide)) (by decide)) (fun k_ hk => ⟨⟨hk.1.1.1, ⟨hk.1.2, hk.2⟩⟩, hk.1.1.2⟩))).2.1 (Kd.R_F (Kd.R_mono (ok' := (fun k_ => ((fun k_ => (w.heap.size ≤ k_) ∧ k_ ≠ gb197 ∧ k_ ≠ g)) k_ ∧ some k_ ≠ (v262 : Value).ownBlock)) (IsS56.apart HI0.out (Kd.R_types (Kd.R_apart' (HO252.out) (Kd.N_typed HO263.out) (by decide)) BK197.out (by decide)) (by decide)) (fun k_ hk => ⟨⟨hk.1.1.1, ⟨hk.1.2, hk.2⟩⟩, hk.1.1.2⟩))))); (case aF => exact (fun k_ hk => ⟨(Nat.le_trans (keep_size (w := w) (g := g) (row := none) (by repeat (first | (with_reducible first | exact HK.out | apply KeepBut.set_ | apply keep_drewN | apply keep_drew | apply keep_alloc | refine keep_far ?_ GW197.out _) | exact HK.out))) hk), Kd.freshB (g := gb197) (o := .cells #[.int .i64 a1_0, .slice A1_1 l1_1.length c1_1] 25 (0, 0)) (Z.bk BK197.out) k_ hk, IsS56.fresh (by repeat (first | (with_reducible first | exact HI0.out | apply IsS56.alloc | apply IsS56.drewN | apply IsS56.drew | apply IsS56.set_1 | refine IsS56.far ?_ NB0_197.out _) | exact HI0.out)) k_ hk⟩)); (case aO => exact (by (with_reducible repeat (first | apply Kd.N_alloc | apply Kd.N_drewN | apply Kd.N_drew)); exact Kd.N_mono HO263.out (fun _ hk => ⟨hk.1, ⟨hk.2.2.1, hk.2.2.2⟩⟩))); (case aS => exact (keep_size (w := w) (g := g) (row := none) (by repeat (first | (with_reducible first | exact HK.out | apply KeepBut.set_ | apply keep_drewN | apply keep_drew | apply keep_alloc | refine keep_far ?_ GW197.out _) | exact HK.out)))); (case aL => have := LMc69.out; omega); intro v265 w87 ho hb hg hat; rw [← Ny264.out] at ho; replace HO_7 := Aside0.mk (Kd.N_afterv (ok := (fun k_ => (w.heap.size ≤ k_) ∧ some k_ ≠ (.slice Ao88 y250.length co88 : Value).ownBlock ∧ k_ ≠ gb197 ∧ k_ ≠ g)) (by (with_reducible repeat (first | apply Kd.N_alloc | apply Kd.N_drewN | apply Kd.N_drew)); exact HO_7.out) hg hat); replace BK197 := Aside0.mk (blk_grown (g := gb197) (o := .cells #[.int .i64 a1_0, .slice A1_1 l1_1.length c1_1] 25 (0, 0)) (Z.bk BK197.out) hg (Kd.N_ne HO263.out BK197.out (by decide))); replace HL240_0 := Aside0.mk (Kd.V_afterv (ok := (fun k_ => (w.heap.size ≤ k_) ∧ some k_ ≠ (.slice (some ad240) x7_3.length co74 : Value).ownBlock ∧ some k_ ≠ (.slice Ao88 y250.length co88 : Value).ownBlock ∧ k_ ≠ gb197 ∧ k_ ≠ g)) (by (with_reducible repeat (first | apply Kd.V_alloc | apply Kd.V_drewN | apply Kd.V_drew)); exact HL240_0.out) hg hat); replace HL244_0 := Aside0.mk (Kd.V_afterv (ok := (fun k_ => (w.heap.size ≤ k_) ∧ some k_ ≠ (.slice (some ad240) x7_3.length co74 : Value).ownBlock ∧ some k_ ≠ (.slice Ao88 y250.length co88 : Value).ownBlock ∧ k_ ≠ gb197 ∧ k_ ≠ g)) (by (with_reducible repeat (first | apply Kd.V_alloc | apply Kd.V_drewN | apply Kd.V_drew)); exact HL244_0.out) hg hat); replace HO260 := Aside0.mk (Kd.V_afterv (ok := (fun k_ => (w.heap.size ≤ k_) ∧ some k_ ≠ (.slice Ao88 y250.length co88 : Value).ownBlock ∧ k_ ≠ gb197 ∧ k_ ≠ g)) (by (with_reducible repeat (first | apply Kd.V_alloc | apply Kd.V_drewN | apply Kd.V_drew)); exact HO260.out) hg hat); replace HB := Aside0.mk (below_weaken (by repeat (first | (with_reducible first | exact HB.out | apply below_alloc | apply pw_below_drewN | apply below_drew1 | refine below_set ?_ (IsS56.ge HI0.out) | refine below_set ?_ GE197.out) | exact HB.out)) HL.out hb); replace HI0 := Aside0.mk (IsS56.grown (by repeat (first | (with_reducible first | exact HI0.out | apply IsS56.alloc | apply IsS56.drewN | apply IsS56.drew | apply IsS56.set_1 | refine IsS56.far ?_ NB0_197.out _) | exact HI0.out)) hg (IsS56.own_neN HI0.out HO263.out (by decide))); replace HK := Aside0.mk (KeepBut.trans (by repeat (first | (with_reducible first | exact HK.out | apply KeepBut.set_ | apply keep_drewN | apply keep_drew | apply keep_alloc | refine keep_far ?_ GW197.out _) | exact HK.out)) (KeepBut.of_grown hg g) (Kd.N_base2 HO263.out)); have HO266 := Aside0.mk (ho); clear HO263 HO252; clear ho hb hg hat; have q89 : ((ji70) : Int) ≤ ((x7_3.length : Int) : Int) := Z.od; obtain ⟨i089, hi089, _, hsz89, _⟩ := info_parts info26; have hroom89 : x7_3.length ≤ co74 := (Kd.N_reads' HO_7.out).2.1; have hC89 : Kd.F (Kd.slice 35 k35) _ _ (some ad240) x7_3.length x7_3 := (Kd.V_at (base := w.heap.size) (Kd.N_V HO_7.out)).2.2; have q089 : (0 : Int) ≤ ((ji70) : Int) := Z.od; have hcut89 := cut_from (P := Try.prog) 67 26 .i64 Try.underlying67 hi089 1 hsz89 (some ad240) x7_3.length co74 (ji70) q089 q89; have hr89 := Kd.F_cut (m := ((ji70) : Int).toNat) (c := co74) hC89 (by omega) hroom89; obtain ⟨A89, hA89⟩ : ∃ A1, A1 = (if co74 = ((ji70) : Int).toNat then (some ad240) else ((some ad240) : Option Addr).map (·.add (((ji70) : Int).toNat * 1))) := ⟨_, rfl⟩; obtain ⟨c89, hc89⟩ : ∃ c1, c1 = co74 - ((ji70) : Int).toNat := ⟨_, rfl⟩; have hy89 : y267.length = x7_3.length - ((ji70) : Int).toNat := (by rw [Ny267.out, List.length_drop] <;> omega); rw [show (x7_3).drop ((ji70) : Int).toNat = y267 from Ny267.out.symm] at hr89; replace hr89 : Kd.F (Kd.slice 35 k35) _ _ A89 y267.length y267 := (by rw [hA89]; exact hr89); rw [← hy89, ← hA89, ← hc89] at hcut89; have HO271 := Aside0.mk (show Kd.V (Kd.slice 35 k35) 26 _ w.heap.size _ (.slice A89 y267.length c89) y267 from Kd.V_mk (by rw [hy89, hc89]; exact Nat.sub_le_sub_right hroom89 _) hr89); have HC271 := Aside0.mk (show y267.length ≤ c89 from by rw [hy89, hc89]; exact Nat.sub_le_sub_right hroom89 _); clear hr89 hC89 hroom89 hi089 hsz89 hc89; have KY89 := Aside0.mk hy89; have KA89 := Aside0.mk hA89; clear hy89 hA89; replace q89 := eq_true q89) | ((with_reducible refine gate_builtin (b := .append) (xs := #[.tmp 100, .tmp 104]) rfl ?_); at_builtin; refine Kd.N_append_rows (Kd.slice 35 k35) w.heap.size rfl (.tmp 100) (.tmp 104) 67 26 (.slice none 0 0) 24 rfl Try.underlying67 info26 rfl (by decide) (by omega) v265 y264 y267 _ _ _ (fun k_ => (w.heap.size ≤ k_) ∧ k_ ≠ gb197 ∧ k_ ≠ g) (fun k_ => ((fun k_ => (w.heap.size ≤ k_) ∧ k_ ≠ gb197 ∧ k_ ≠ g)) k_ ∧ some k_ ≠ (v265 : Value).ownBlock) rfl rfl ?aO ?aR (fun _ hk => hk) ?aF (Below.refl _ _) ?aS ?aL ?_; (case aR => exact (by skip; exact Kd.V_F (Kd.V_mono (ok' := (fun k_ => ((fun k_ => (w.heap.size ≤ k_) ∧ k_ ≠ gb197 ∧ k_ ≠ g)) k_ ∧ some k_ ≠ (v265 : Value).ownBlock)) (HO271.out) (fun k_ hk => ⟨⟨hk.1.1, ⟨hk.1.2.2.1, hk.1.2.2.2⟩⟩, hk.2⟩)))); (case aF => exact (fun k_ hk => ⟨(Nat.le_trans (keep_size (w := w) (g := g) (row := none) (by repeat (first | (with_reducible first | exact HK.out | apply KeepBut.set_ | apply keep_drewN | apply keep_drew | apply keep_alloc | refine keep_far ?_ GW197.out _) | exact HK.out))) hk), Kd.freshB (g := gb197) (o := .cells #[.int .i64 a1_0, .slice A1_1 l1_1.length c1_1] 25 (0, 0)) (Z.bk BK197.out) k_ hk, IsS56.fresh (by repeat (first | (with_reducible first | exact HI0.out | apply IsS56.alloc | apply IsS56.drewN | apply IsS56.drew | apply IsS56.set_1 | refine IsS56.far ?_ NB0_197.out _) | exact HI0.out)) k_ hk⟩)); (case aO => exact (by (with_reducible repeat (first | apply Kd.N_alloc | apply Kd.N_drewN | apply Kd.N_drew)); exact HO266.out)); (case aS => exact (keep_size (w := w) (g := g) (row := none) (by repeat (first | (with_reducible first | exact HK.out | apply KeepBut.set_ | apply keep_drewN | apply keep_drew | apply keep_alloc | refine keep_far ?_ GW197.out _) | exact HK.out)))); (case aL => have := LMc73.out; omega); intro v273 w90 ho hb hg hat; rw [← Ny272.out] at ho; replace HO_7 := Aside0.mk (Kd.N_afterv (ok := (fun k_ => (w.heap.size ≤ k_) ∧ k_ ≠ gb197 ∧ k_ ≠ g)) (by (with_reducible repeat (first | apply Kd.N_alloc | apply Kd.N_drewN | apply Kd.N_drew)); exact Kd.N_mono HO_7.out (fun _ hk => ⟨⟨hk.1.1, ⟨hk.1.2.2.1, hk.1.2.2.2⟩⟩, hk.2⟩)) hg hat); replace BK197 := Aside0.mk (blk_grown (g := gb197) (o := .cells #[.int .i64 a1_0, .slice A1_1 l1_1.length c1_1] 25 (0, 0)) (Z.bk BK197.out) hg (Kd.N_ne HO266.out BK197.out (by decide))); replace HL240_0 := Aside0.mk (Kd.V_afterv (ok := (fun k_ => (w.heap.size ≤ k_) ∧ some k_ ≠ (.slice (some ad240) x7_3.length co74 : Value).ownBlock ∧ k_ ≠ gb197 ∧ k_ ≠ g)) (by (with_reducible repeat (first | apply Kd.V_alloc | apply Kd.V_drewN | apply Kd.V_drew)); exact Kd.V_mono HL240_0.out (fun _ hk => ⟨⟨hk.1.1, ⟨hk.1.2.1, ⟨hk.1.2.2.2.1, hk.1.2.2.2.2⟩⟩⟩, hk.2⟩)) hg hat); replace HL244_0 := Aside0.mk (Kd.V_afterv (ok := (fun k_ => (w.heap.size ≤ k_) ∧ some k_ ≠ (.slice (some ad240) x7_3.length co74 : Value).ownBlock ∧ k_ ≠ gb197 ∧ k_ ≠ g)) (by (with_reducible repeat (first | apply Kd.V_alloc | apply Kd.V_drewN | apply Kd.V_drew)); exact Kd.V_mono HL244_0.out (fun _ hk => ⟨⟨hk.1.1, ⟨hk.1.2.1, ⟨hk.1.2.2.2.1, hk.1.2.2.2.2⟩⟩⟩, hk.2⟩)) hg hat); replace HO260 := Aside0.mk (Kd.V_afterv (ok := (fun k_ => (w.heap.size ≤ k_) ∧ k_ ≠ gb197 ∧ k_ ≠ g)) (by (with_reducible repeat (first | apply Kd.V_alloc | apply Kd.V_drewN | apply Kd.V_drew)); exact Kd.V_mono HO260.out (fun _ hk => ⟨⟨hk.1.1, ⟨hk.1.2.2.1, hk.1.2.2.2⟩⟩, hk.2⟩)) hg hat); replace HO271 := Aside0.mk (Kd.V_afterv (ok := (fun k_ => (w.heap.size ≤ k_) ∧ k_ ≠ gb197 ∧ k_ ≠ g)) (by (with_reducible repeat (first | apply Kd.V_alloc | apply Kd.V_drewN | apply Kd.V_drew)); exact Kd.V_mono HO271.out (fun _ hk => ⟨⟨hk.1.1, ⟨hk.1.2.2.1, hk.1.2.2.2⟩⟩, hk.2⟩)) hg hat); replace HB := Aside0.mk (below_weaken (by repeat (first | (with_reducible first | exact HB.out | apply below_alloc | apply pw_below_drewN | apply below_drew1 | refine below_set ?_ (IsS56.ge HI0.out) | refine below_set ?_ GE197.out) | exact HB.out)) HL.out hb); replace HI0 := Aside0.mk (IsS56.grown (by repeat (first | (with_reducible first | exact HI0.out | apply IsS56.alloc | apply IsS56.drewN | apply IsS56.drew | apply IsS56.set_1 | refine IsS56.far ?_ NB0_197.out _) | exact HI0.out)) hg (IsS56.own_neN HI0.out HO266.out (by decide))); replace HK := Aside0.mk (KeepBut.trans (by repeat (first | (with_reducible first | exact HK.out | apply KeepBut.set_ | apply keep_drewN | apply keep_drew | apply keep_alloc | refine keep_far ?_ GW197.out _) | exact HK.out)) (KeepBut.of_grown hg g) (Kd.N_base2 HO266.out)); have HO274 := Aside0.mk (ho); clear HO266; clear ho hb hg hat))
          go_roundg k3
          case measure => have := HJ3.out; have := HK2.out; have := HK3.out; omega
          case rel => exact ⟨(y272), (t249), H', ⟨by have := HJ3.out; have := HK2.out; have := HK3.out; omega⟩, ⟨by (with_reducible repeat (first | apply Kd.N_alloc | apply Kd.N_drewN | apply Kd.N_drew)); exact HO274.out⟩, ⟨by (with_reducible repeat (first | refine blk_drewN ?_ _ | refine blk_drew ?_ | refine blk_alloc ?_ _)); exact BK197.out⟩, ⟨by repeat (first | (with_reducible first | exact HI0.out | apply IsS56.alloc | apply IsS56.drewN | apply IsS56.drew | apply IsS56.set_1 | refine IsS56.far ?_ NB0_197.out _) | exact HI0.out)⟩, ⟨by repeat (first | (with_reducible first | exact HK.out | apply KeepBut.set_ | apply keep_drewN | apply keep_drew | apply keep_alloc | refine keep_far ?_ GW197.out _) | exact HK.out)⟩, ⟨by repeat (first | (with_reducible first | exact HB.out | apply below_alloc | apply pw_below_drewN | apply below_drew1 | refine below_set ?_ (IsS56.ge HI0.out) | refine below_set ?_ GE197.out) | exact HB.out)⟩⟩
         ·rw [if_neg c55] at H
          have c55b0 : decide (1 < (x7_3.length : Int)) = false := decide_eq_false c55
          have c55b1 : decide (1 < x7_3.length) = false := decide_eq_false (by omega)
          clear c55
          obtain ⟨c91, H⟩ := Z.ifp H
          have c91b0 : decide (0 < (x7_3.length : Int)) = true := decide_eq_true c91
          have c91b1 : decide (0 < x7_3.length) = true := decide_eq_true (by omega)
          clear c91
          simp only [Option.some.injEq, Prod.mk.injEq] at H
          obtain ⟨rfl, rfl⟩ := H
          obtain ⟨Ao92, co92, eo92⟩ := Kd.N_slice HO_7.out
          subst eo92
          have p275 : 0 ≤ (0 : Int) := (by omega)
          have q275 : 0 < (x7_3.length : Int) := Z.od
          obtain ⟨ad275, A275_0, c275_0, e275, hx275_0, hl275_0, hi275_0⟩ := at_L3 (Kd.N_reads' HO_7.out).2.2 0 p275 q275
          cases e275
          obtain ⟨ce275, hce275, hMe275, hcc275⟩ := Kd.N_get HO_7.out [] 0 p275 (by first | exact q275 | exact Z.od | (have e_ := (Kd.N_reads' HO_7.out).1; omega))
          obtain ⟨ua275_0, uc275_0, rfl, ul275_0, ge275_0⟩ := Kd.FK_slice_open hMe275
          have hv275_0 := hcc275 0 _ rfl
          rw [Nat.add_zero, show ((Kd.slice 35 k35)).sz = 1 from rfl, Nat.mul_one] at hv275_0
          replace hv275_0 := Option.some.inj (hv275_0.symm.trans hx275_0)
          injection hv275_0 with hva_ hvn_ hvc_
          rw [hva_] at ge275_0
          rw [hvc_] at ul275_0
          have HL275_0 := Aside0.mk (show Kd.V k35 35 _ w.heap.size _ _ (rd_L3 x7_3 0) from Kd.V_mk ul275_0 ge275_0)
          clear hva_ hvn_ hvc_ ge275_0 ul275_0
          clear hcc275 hce275
          have qi275 : (0 < x7_3.length) = True := eq_true (by omega)
          (try rw [show ((0 : Int)).toNat = 0 from rfl] at hx275_0)
          (try rw [Addr.add_zero'] at hx275_0)
          have HR275_0 := Aside0.mk hi275_0
          have HC275_0 := Aside0.mk hl275_0
          clear hi275_0 hl275_0
          replace p275 := eq_true p275
          replace q275 := eq_true q275
          go_wp2
          go_ret
          exact ⟨_, by first | rfl | (simp [errW_none, errW_some] <;> rfl) | (simp [*, errW_none, errW_some] <;> rfl), by (with_reducible repeat (first | apply Kd.V_alloc | apply Kd.V_drewN | apply Kd.V_drew)); exact Kd.V_mono HL275_0.out (fun _ hk => hk.1.1), by repeat (first | (with_reducible first | exact HI0.out | apply IsS56.alloc | apply IsS56.drewN | apply IsS56.drew | apply IsS56.set_1 | refine IsS56.far ?_ NB0_197.out _) | exact HI0.out), by repeat (first | (with_reducible first | exact HB.out | apply below_alloc | apply pw_below_drewN | apply below_drew1 | refine below_set ?_ (IsS56.ge HI0.out) | refine below_set ?_ GE197.out) | exact HB.out), by repeat (first | (with_reducible first | exact HK.out | apply KeepBut.set_ | apply keep_drewN | apply keep_drew | apply keep_alloc | refine keep_far ?_ GW197.out _) | exact HK.out)⟩
end Go.Proofs.Ytenjngocdinfmaa.PAll

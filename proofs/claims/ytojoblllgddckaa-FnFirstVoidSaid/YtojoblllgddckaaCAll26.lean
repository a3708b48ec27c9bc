/- Walks of functions that laws of this seat reach, in the form of the print. -/
import Derived.Test.YtojoblllgddckaaCAll0
import Derived.Test.YtojoblllgddckaaCAll1
import Derived.Test.YtojoblllgddckaaCAll21
import Derived.Test.YtojoblllgddckaaCAll25
import Derived.Test.YtojoblllgddckaaZ
-- PRINTED
namespace Go.Proofs.Ytojoblllgddckaa.PAll
open Go.RowKit Go.Proofs.YtojoblllgddckaaW.PrintWords Go.Proofs.YtojoblllgddckaaW.PrintLast Go.Proofs.YtojoblllgddckaaW.PrintMore
attribute [local go_sem] max2_int min2_int max_two min_two max_three min_three max_four min_four
set_option linter.unusedVariables false
set_option linter.unusedSimpArgs false

/-! ### spec_ValidActs: function 41 -/
mutual
def spec_ValidActs.j0 : Nat → List Int → List (S48) → List (S48) → Bool → Int → List Int → List (List (S91)) → Option ((List (S48)))
 | 0, _, _, _, _, _, _, _ => none
 | k + 1, x1, x2, x7, x19, x742000, x742001, x742002 => if x19 = true then (some x7) else ((some (([] : List Int) : List Int)).bind fun y746 => (if y746.length + x1.length < 17592186044416 then (spec_ValidActs.l0 k x2 x7 (y746 ++ x1) 0 x742000 x742001 x742002) else (none)))
def spec_ValidActs.l0 : Nat → List (S48) → List (S48) → List Int → Int → Int → List Int → List (List (S91)) → Option ((List (S48)))
 | 0, _, _, _, _, _, _, _ => none
 | k + 1, x2, x7, x8, x9, x742000, x742001, x742002 => if x9 < (x2.length : Int) then (if 0 ≤ x9 then ((spec_MayChange.f k x742000 x742001 x742002 x8 ((rd_T48 x2 x9).f0) ((rd_T48 x2 x9).f1) ((rd_T48 x2 x9).f2)).bind fun t755 => (if t755 = true then (if 0 ≤ ((rd_T48 x2 x9).f0) then (if ((rd_T48 x2 x9).f0) < (x8.length : Int) then (if x7.length < 5864062014805 then (spec_ValidActs.l0 k x2 (x7 ++ [(⟨(rd_T48 x2 x9).f0, (rd_T48 x2 x9).f1, (rd_T48 x2 x9).f2⟩ : S48)]) (x8.set (((rd_T48 x2 x9).f0) : Int).toNat ((rd_T48 x2 x9).f1)) (wrap64 (x9 + 1)) x742000 x742001 x742002) else (none)) else (none)) else (none)) else (spec_ValidActs.l0 k x2 x7 x8 (wrap64 (x9 + 1)) x742000 x742001 x742002))) else (none)) else (some x7)
end
def spec_ValidActs.f (k : Nat) (a0_0 : Int) (l0_1 : List Int) (l0_2 : List (List (S91))) (l1 : List Int) (l2 : List (S48)) : Option ((List (S48))) := (some (([] : List (S48)) : List (S48))).bind fun y742 => ((spec_StateOk.f k a0_0 l0_1 l0_2 l1).bind fun t745 => (if t745 = true then (spec_ValidActs.j0 k l1 l2 y742 (decide ((l2.length : Int) > 12)) a0_0 l0_1 l0_2) else (spec_ValidActs.j0 k l1 l2 y742 true a0_0 l0_1 l0_2)))
def spec_ValidActs.T8 : Bool × List (List Nat × List Nat) := (true, [([], []), ([], []), ([], []), ([], []), ([2, 3], [2, 3]), ([4], [4]), ([5], [5]), ([], []), ([], []), ([7, 8], [7, 8]), ([9], [9]), ([10], [10]), ([], []), ([], []), ([12, 13], [12, 13]), ([14], [14]), ([15], [15]), ([0, 1, 6, 11, 16], [0, 1, 6, 11, 16])])
def spec_ValidActs.B8 : List Nat := [0, 0, 0, 0, 12, 28, 60, 0, 0, 384, 896, 1920, 0, 0, 12288, 28672, 61440, 131071]
theorem spec_ValidActs.tab8 : rtab .any (opsOf Try.f41 8) = spec_ValidActs.T8 := by kernel_rfl
theorem spec_ValidActs.bits8 : waitsOk spec_ValidActs.T8.2 spec_ValidActs.B8 = true := by kernel_rfl
def spec_ValidActs.T9 : Bool × List (List Nat × List Nat) := (true, [([], []), ([], []), ([], []), ([1, 2], [1, 2]), ([3], [3]), ([4], [4]), ([], []), ([], []), ([6, 7], [6, 7]), ([8], [8]), ([9], [9]), ([0, 5, 0, 1, 2, 3, 4, 5, 6, 7, 8, 9, 10], [0, 5]), ([11, 10, 0, 1, 2, 3, 4, 5, 6, 7, 8, 9, 10], [10, 11])])
def spec_ValidActs.B9 : List Nat := [0, 0, 0, 6, 14, 30, 0, 0, 192, 448, 960, 2047, 4095]
theorem spec_ValidActs.tab9 : rtab .any (opsOf Try.f41 9) = spec_ValidActs.T9 := by kernel_rfl
theorem spec_ValidActs.bits9 : waitsOk spec_ValidActs.T9.2 spec_ValidActs.B9 = true := by kernel_rfl
set_option maxHeartbeats 8000000 in
set_option maxRecDepth 100000 in
theorem spec_ValidActs.calls (k : Nat) (a0_0 : Int) (A0_1 : Option Addr) (c0_1 : Nat) (l0_1 : List Int) (A0_2 : Option Addr) (c0_2 : Nat) (l0_2 : List (List (S91))) (A1 : Option Addr) (c1 : Nat) (l1 : List Int) (A2 : Option Addr) (c2 : Nat) (l2 : List (S48)) (r : List (S48)) (w : World) (hr0_1 : Kd.C (Kd.int .i64) w A0_1 l0_1.length l0_1) (hc0_1 : l0_1.length ≤ c0_1) (hr0_2 : Kd.C (Kd.slice 91 k91) w A0_2 l0_2.length l0_2) (hc0_2 : l0_2.length ≤ c0_2) (hr1 : Kd.C (Kd.int .i64) w A1 l1.length l1) (hc1 : l1.length ≤ c1) (hr2 : Kd.C k48 w A2 l2.length l2) (hc2 : l2.length ≤ c2) (h : spec_ValidActs.f k a0_0 l0_1 l0_2 l1 l2 = some r) :
  Calls Try.prog 41 #[.agg #[.int .i64 a0_0, .slice A0_1 l0_1.length c0_1, .slice A0_2 l0_2.length c0_2], .slice A1 l1.length c1, .slice A2 l2.length c2] w fun e w' => ∃ v0_ : Value, e = .returned (v0_) ∧ Kd.R k48 48 w' w.heap.size (fun _ => True) v0_ r ∧ Below w.heap.size w w' := by
 have hu46 := Try.underlying46
 have hu48 := Try.underlying48
 have HR0_1 := Z.k hr0_1
 have HC0_1 := Z.k hc0_1
 clear hr0_1 hc0_1
 have HR0_2 := Z.k hr0_2
 have HC0_2 := Z.k hc0_2
 clear hr0_2 hc0_2
 have HR1 := Z.k hr1
 have HC1 := Z.k hc1
 clear hr1 hc1
 have HR2 := Z.k hr2
 have HC2 := Z.k hc2
 clear hr2 hc2
 have HB := Z.k (Below.refl w.heap.size w)
 have H := h
 clear h
 unfold spec_ValidActs.f at H
 obtain ⟨y742, hy742⟩ : ∃ y_ : List (S48), y_ = (([] : List (S48))) := ⟨_, rfl⟩
 replace H : ((spec_StateOk.f k a0_0 l0_1 l0_2 l1).bind fun t745 => (if t745 = true then (spec_ValidActs.j0 k l1 l2 y742 (decide ((l2.length : Int) > 12)) a0_0 l0_1 l0_2) else (spec_ValidActs.j0 k l1 l2 y742 true a0_0 l0_1 l0_2))) = some r := by (have H2_ := (Option.bind_some _ _).symm.trans H; rw [hy742]; with_reducible exact H2_)
 have Ny742 := Z.k hy742
 clear hy742
 have HC4 := Z.k H
 clear H
 go_enter Try.func41, Try.ntmps41
 go_upto_region 2 with (first | ((with_reducible refine gate_dst (N := 3) rfl ?_); (try (refine gate_guard (by rfl) ?_; dsimp only)); refine Z.bx #[.int .i64 a0_0, .slice A0_1 l0_1.length c0_1, .slice A0_2 l0_2.length c0_2] 46 HB ?_; clear HB; intro gb741 w5 BK741 GE741 HB hg hb; have GW741 := GE741; clear hb hg) | ((with_reducible refine gate_dst (N := 10) rfl ?_); (try (refine gate_guard (by rfl) ?_; dsimp only)); refine Kd.R_lit k48 _ 48 ?hg (N := 10) ?hd (xs := ([] : List (S48))) (inner := []) (ok := fun _ => True) (okp := fun _ => True) ?hr ?hp (fun _ hk => hk) trivial (Below.refl _ _) (Nat.le_refl _) (by simp) ?_; (case hd | hg => rfl); (case hr => (go_simp; done)); (case hp => exact (Reps.none _ _)); intro v743 w6 ho7 hb hg_ hnew_; clear hg_ hnew_; (rw [← Ny742.out] at ho7); have HO744 := Z.k (Kd.R_lower ho7 (below_size (Z.bs HB.out GE741.out))); replace BK741 := Z.bb BK741 hb; replace HB := Z.st (Z.bs HB.out GE741.out) hb; clear hb ho7))
 go_cut [19] (fun v19 wc => ∃ (kq : Nat) (x19_3 : Bool), v19 = .bool x19_3 ∧ Aside0 (spec_ValidActs.j0 kq l1 l2 y742 x19_3 a0_0 l0_1 l0_2 = some r) ∧ Aside0 (kq ≤ k) ∧ Aside0 (Kd.R k48 48 wc w.heap.size (fun _ => True) v743 y742) ∧ Aside0 (wc.heap[gb741]? = some (.cells #[.int .i64 a0_0, (.slice A0_1 l0_1.length c0_1), (.slice A0_2 l0_2.length c0_2)] 46 (0, 0))) ∧ Aside0 (Below w.heap.size w wc))
 case first =>
  have H := HC4.out
  clear HC4
  replace H := Option.bind_eq_some_iff.mp H
  obtain ⟨t745, A80, H⟩ := H
  have A8 := Z.k A80
  clear A80
  by_cases c9 : t745 = true
  ·subst c9
   rw [if_pos rfl] at H
   have H' := Z.k H
   clear H
   have hcz10 := Z.c3 BK741.out
   go_wp2_with (((with_reducible refine gate_callee (f := 29) rfl ?_); refine goesL_ (some 13) rfl rfl Try.func29 (by kernel_rfl) rfl #[.agg #[.int .i64 a0_0, .slice A0_1 l0_1.length c0_1, .slice A0_2 l0_2.length c0_2], .slice A1 l1.length c1] rfl Z.ar ?_; (with_reducible refine (spec_StateOk.calls k a0_0 _ _ l0_1 _ _ l0_2 _ _ l1 true _ ?q1 ?q2 ?q3 ?q4 ?q5 ?q6 A8.out).mono ?_); (case q1 => exact Z.cc HR0_1 HB); (case q2 => exact HC0_1.out); (case q3 => exact Z.cc HR0_2 HB); (case q4 => exact HC0_2.out); (case q5 => exact Z.cc HR1 HB); (case q6 => exact HC1.out); rintro e w11 ⟨rfl, hb⟩; refine ⟨_, rfl, ?_⟩; replace HO744 := Z.k (Kd.R_below HO744.out hb); replace BK741 := Z.bb BK741 hb; replace HB := Z.st (Z.bs HB.out GE741.out) hb; (try clear hb)))
   go_meet
   case rel => exact ⟨_, (decide ((l2.length : Int) > 12)), (by rfl), H', ⟨by omega⟩, ⟨by exact HO744.out⟩, ⟨by exact BK741.out⟩, ⟨Z.bs HB.out GE741.out⟩⟩
  ·replace c9 := Bool.eq_false_iff.mpr c9
   subst c9
   rw [if_neg (show ¬ (false = true) by decide)] at H
   have H' := Z.k H
   clear H
   have hcz12 := Z.c3 BK741.out
   go_wp2_with (((with_reducible refine gate_callee (f := 29) rfl ?_); refine goesL_ (some 13) rfl rfl Try.func29 (by kernel_rfl) rfl #[.agg #[.int .i64 a0_0, .slice A0_1 l0_1.length c0_1, .slice A0_2 l0_2.length c0_2], .slice A1 l1.length c1] rfl Z.ar ?_; (with_reducible refine (spec_StateOk.calls k a0_0 _ _ l0_1 _ _ l0_2 _ _ l1 false _ ?q1 ?q2 ?q3 ?q4 ?q5 ?q6 A8.out).mono ?_); (case q1 => exact Z.cc HR0_1 HB); (case q2 => exact HC0_1.out); (case q3 => exact Z.cc HR0_2 HB); (case q4 => exact HC0_2.out); (case q5 => exact Z.cc HR1 HB); (case q6 => exact HC1.out); rintro e w13 ⟨rfl, hb⟩; refine ⟨_, rfl, ?_⟩; replace HO744 := Z.k (Kd.R_below HO744.out hb); replace BK741 := Z.bb BK741 hb; replace HB := Z.st (Z.bs HB.out GE741.out) hb; (try clear hb)))
   go_meet
   case rel => exact ⟨_, (true), (by rfl), H', ⟨by omega⟩, ⟨by exact HO744.out⟩, ⟨by exact BK741.out⟩, ⟨Z.bs HB.out GE741.out⟩⟩
 case rest =>
  clear HC4
  obtain ⟨kq, x19_3, rfl, HA, HJ3, HO_7, BK741, HB⟩ := hcut
  cases kq with
  | zero => exact absurd HA.out (by simp [spec_ValidActs.j0])
  | succ kj3 =>
   have H := HA.out
   clear HA
   simp only [spec_ValidActs.j0] at H
   by_cases c14 : x19_3 = true
   ·subst c14
    rw [if_pos rfl] at H
    obtain rfl := Option.some.inj H
    go_wp2
    go_ret
    exact ⟨_, by rfl, by exact HO_7.out, Z.bs HB.out GE741.out⟩
   ·replace c14 := Bool.eq_false_iff.mpr c14
    subst c14
    rw [if_neg (show ¬ (false = true) by decide)] at H
    obtain ⟨y746, hy746⟩ : ∃ y_ : List Int, y_ = (([] : List Int)) := ⟨_, rfl⟩
    replace H : (if y746.length + l1.length < 17592186044416 then (spec_ValidActs.l0 kj3 l2 y742 (y746 ++ l1) 0 a0_0 l0_1 l0_2) else (none)) = some r := by (have H2_ := (Option.bind_some _ _).symm.trans H; rw [hy746]; with_reducible exact H2_)
    have Ny746 := Z.k hy746
    clear hy746
    obtain ⟨c15, H⟩ := Z.ifp H
    have LMc15 := Z.k c15
    clear c15
    obtain ⟨y749, hy749⟩ : ∃ y_ : List Int, y_ = (y746 ++ l1) := ⟨_, rfl⟩
    replace H : (spec_ValidActs.l0 kj3 l2 y742 y749 0 a0_0 l0_1 l0_2) = some r := by (rw [hy749]; with_reducible exact H)
    have Ny749 := Z.k hy749
    clear hy749
    have H' := Z.k H
    clear H
    go_wp2_with (first | ((with_reducible refine gate_dst (N := 21) rfl ?_); (try (refine gate_guard (by rfl) ?_; dsimp only)); refine Kd.R_lit (Kd.int .i64) _ 3 ?hg (N := 21) ?hd (xs := ([] : List Int)) (inner := []) (ok := fun _ => True) (okp := fun _ => True) ?hr ?hp (fun _ hk => hk) trivial (Below.refl _ _) (Nat.le_refl _) (by simp) ?_; (case hd | hg => rfl); (case hr => (go_simp; done)); (case hp => exact (Reps.none _ _)); intro v747 w16 ho17 hb hg_ hnew_; clear hg_ hnew_; (rw [← Ny746.out] at ho17); replace HO_7 := Z.k (Kd.R_below HO_7.out hb); have HO748 := Z.k (Kd.R_lower ho17 (below_size (Z.bs HB.out GE741.out))); replace BK741 := Z.bb BK741 hb; replace HB := Z.st (Z.bs HB.out GE741.out) hb; clear hb ho17) | ((with_reducible refine gate_builtin (b := .append) (xs := #[.tmp 21, .tmp 22]) rfl ?_); (try (refine gate_guard (by rfl) ?_; dsimp only)); at_builtin; refine Kd.R_append_rows (Kd.int .i64) (w0 := w) w.heap.size rfl (.tmp 21) (.tmp 22) 23 3 (.int .i64 0) 8 rfl Try.underlying23 info3 rfl (by decide) (by omega) v747 y746 l1 _ _ _ (fun _ => True) (fun _ => False) rfl rfl ?aO ?aR (fun _ _ h => h) (fun _ h => h.elim) ?aF ?aB ?aS ?aL ?_; (case aR => exact Z.cc HR1 HB); (case aB => exact (Z.bs HB.out GE741.out)); (case aF => exact (fun _ _ => trivial)); (case aO => exact HO748.out); (case aS => exact (below_size (Z.bs HB.out GE741.out))); (case aL => have := LMc15.out; omega); intro v750 w18 ho hb hg hat; rw [← Ny749.out] at ho; replace HO_7 := Z.k (Kd.R_over' HO_7.out (Kd.R_typed HO748.out) (by decide) hg); replace BK741 := Z.k (blk_grown (g := gb741) (o := .cells #[.int .i64 a0_0, .slice A0_1 l0_1.length c0_1, .slice A0_2 l0_2.length c0_2] 46 (0, 0)) (Z.bk BK741.out) hg (Kd.R_ne HO748.out BK741.out (by decide))); replace HB := Z.k hb; have HO751 := Z.k ho; clear HO748; clear ho hb hg hat))
    go_loopg [7, 9] kj3 (fun kq v7 v9 w' => ∃ (x7_2 : List (S48)) (x8_2 : List Int) (x9_2 : Int), v9 = .int .i64 x9_2 ∧ Aside0 (spec_ValidActs.l0 kq l2 x7_2 x8_2 x9_2 a0_0 l0_1 l0_2 = some r) ∧ Aside0 (kq ≤ kj3) ∧ Aside0 (Kd.R k48 48 w' w.heap.size (fun _ => True) v7 x7_2) ∧ Aside0 (Kd.R (Kd.int .i64) 3 w' w.heap.size (fun _ => True) v750 x8_2) ∧ Aside0 (w'.heap[gb741]? = some (.cells #[.int .i64 a0_0, (.slice A0_1 l0_1.length c0_1), (.slice A0_2 l0_2.length c0_2)] 46 (0, 0))) ∧ Aside0 (Below w.heap.size w w'))
    case atStart => exact ⟨(y742), (y749), (0), (by rfl), H', ⟨Nat.le_refl _⟩, ⟨by exact HO_7.out⟩, ⟨by exact HO751.out⟩, ⟨by exact BK741.out⟩, ⟨Z.bs HB.out GE741.out⟩⟩
    case round =>
     clear H'
     obtain ⟨x7_2, x8_2, x9_2, rfl, HA, HK2, HO_7, HO_8, BK741, HB⟩ := hrel
     cases gk with
     | zero => exact absurd HA.out (by simp [spec_ValidActs.l0])
     | succ k2 =>
      have H := HA.out
      clear HA
      simp only [spec_ValidActs.l0] at H
      by_cases c19 : x9_2 < (l2.length : Int)
      ·rw [if_pos c19] at H
       have c19b0 := decide_eq_true c19
       clear c19
       obtain ⟨c20, H⟩ := Z.ifp H
       have c20b0 : decide (0 ≤ x9_2) = true := decide_eq_true c20
       clear c20
       replace H := Option.bind_eq_some_iff.mp H
       obtain ⟨t755, A210, H⟩ := H
       have A21 := Z.k A210
       clear A210
       by_cases c22 : t755 = true
       ·subst c22
        rw [if_pos rfl] at H
        obtain ⟨c23, H⟩ := Z.ifp H
        have c23b0 : decide (0 ≤ ((rd_T48 l2 x9_2).f0)) = true := decide_eq_true c23
        clear c23
        obtain ⟨c24, H⟩ := Z.ifp H
        have c24b0 : decide (((rd_T48 l2 x9_2).f0) < (x8_2.length : Int)) = true := decide_eq_true c24
        clear c24
        obtain ⟨y758, hy758⟩ : ∃ y_ : List Int, y_ = (x8_2.set (((rd_T48 l2 x9_2).f0) : Int).toNat ((rd_T48 l2 x9_2).f1)) := ⟨_, rfl⟩
        replace H : (if x7_2.length < 5864062014805 then (spec_ValidActs.l0 k2 l2 (x7_2 ++ [(⟨(rd_T48 l2 x9_2).f0, (rd_T48 l2 x9_2).f1, (rd_T48 l2 x9_2).f2⟩ : S48)]) y758 (wrap64 (x9_2 + 1)) a0_0 l0_1 l0_2) else (none)) = some r := by (rw [hy758]; with_reducible exact H)
        have Ny758 := Z.k hy758
        clear hy758
        obtain ⟨c26, H⟩ := Z.ifp H
        have LMc26 := Z.k c26
        clear c26
        obtain ⟨y760, hy760⟩ : ∃ y_ : List (S48), y_ = (x7_2 ++ [(⟨(rd_T48 l2 x9_2).f0, (rd_T48 l2 x9_2).f1, (rd_T48 l2 x9_2).f2⟩ : S48)]) := ⟨_, rfl⟩
        replace H : (spec_ValidActs.l0 k2 l2 y760 y758 (wrap64 (x9_2 + 1)) a0_0 l0_1 l0_2) = some r := by (rw [hy760]; with_reducible exact H)
        have Ny760 := Z.k hy760
        clear hy760
        have H' := Z.k H
        clear H
        try go_wp2
        replace HO_7 := Z.k (Kd.R_drew HO_7.out)
        replace HO_8 := Z.k (Kd.R_drew HO_8.out)
        replace BK741 := Z.k (blk_drew BK741.out)
        replace HB := Z.k (below_drew1 HB.out)
        have p752 : 0 ≤ (x9_2 : Int) := Z.od
        have q752 : x9_2 < (l2.length : Int) := Z.od
        obtain ⟨ad752, rfl, hx752_0, hx752_1, hx752_2⟩ := at_T48 HR2.out x9_2 p752 q752
        have hw752_2 := hx752_2
        have hw752_1 := hx752_1
        have hw752_0 := hx752_0
        replace hx752_0 := Z.up HB.out hx752_0
        replace hx752_1 := Z.up HB.out hx752_1
        replace hx752_2 := Z.up HB.out hx752_2
        replace p752 := eq_true p752
        replace q752 := eq_true q752
        have p753 : 0 ≤ (x9_2 : Int) := Z.od
        have q753 : x9_2 < (l2.length : Int) := Z.od
        obtain ⟨ad753, e753, hx753_0, hx753_1, hx753_2⟩ := at_T48 HR2.out x9_2 p753 q753
        have hw753_2 := hx753_2
        have hw753_1 := hx753_1
        have hw753_0 := hx753_0
        obtain rfl : ad752 = ad753 := (by injection e753)
        replace hx753_0 := Z.up HB.out hx753_0
        replace hx753_1 := Z.up HB.out hx753_1
        replace hx753_2 := Z.up HB.out hx753_2
        replace p753 := eq_true p753
        replace q753 := eq_true q753
        have p754 : 0 ≤ (x9_2 : Int) := Z.od
        have q754 : x9_2 < (l2.length : Int) := Z.od
        obtain ⟨ad754, e754, hx754_0, hx754_1, hx754_2⟩ := at_T48 HR2.out x9_2 p754 q754
        have hw754_2 := hx754_2
        have hw754_1 := hx754_1
        have hw754_0 := hx754_0
        obtain rfl : ad752 = ad754 := (by injection e754)
        replace hx754_0 := Z.up HB.out hx754_0
        replace hx754_1 := Z.up HB.out hx754_1
        replace hx754_2 := Z.up HB.out hx754_2
        replace p754 := eq_true p754
        replace q754 := eq_true q754
        obtain ⟨Ao28, co28, eo28⟩ := Kd.R_slice HO_8.out
        (subst eo28)
        refine start_ (n := 18) (S := fun w' => w'.cell? ⟨gb741, 0, none⟩ = some (.int .i64 a0_0) ∧ w'.cell? ⟨gb741, 1, none⟩ = some (.slice A0_1 l0_1.length c0_1) ∧ w'.cell? ⟨gb741, 2, none⟩ = some (.slice A0_2 l0_2.length c0_2) ∧ w'.cell? (ad752.add ((x9_2).toNat * 3)) = some (.int .i64 ((rd_T48 l2 x9_2).f0)) ∧ w'.cell? ⟨(ad752.add ((x9_2).toNat * 3)).block, (ad752.add ((x9_2).toNat * 3)).off + 1, none⟩ = some (.int .i64 ((rd_T48 l2 x9_2).f1)) ∧ w'.cell? ⟨(ad752.add ((x9_2).toNat * 3)).block, (ad752.add ((x9_2).toNat * 3)).off + 2, none⟩ = some (.int .i64 ((rd_T48 l2 x9_2).f2)) ∧ w'.cell? (ad752.add ((x9_2).toNat * 3)) = some (.int .i64 ((rd_T48 l2 x9_2).f0)) ∧ w'.cell? ⟨(ad752.add ((x9_2).toNat * 3)).block, (ad752.add ((x9_2).toNat * 3)).off + 1, none⟩ = some (.int .i64 ((rd_T48 l2 x9_2).f1)) ∧ w'.cell? ⟨(ad752.add ((x9_2).toNat * 3)).block, (ad752.add ((x9_2).toNat * 3)).off + 2, none⟩ = some (.int .i64 ((rd_T48 l2 x9_2).f2)) ∧ w'.cell? (ad752.add ((x9_2).toNat * 3)) = some (.int .i64 ((rd_T48 l2 x9_2).f0)) ∧ w'.cell? ⟨(ad752.add ((x9_2).toNat * 3)).block, (ad752.add ((x9_2).toNat * 3)).off + 1, none⟩ = some (.int .i64 ((rd_T48 l2 x9_2).f1)) ∧ w'.cell? ⟨(ad752.add ((x9_2).toNat * 3)).block, (ad752.add ((x9_2).toNat * 3)).off + 2, none⟩ = some (.int .i64 ((rd_T48 l2 x9_2).f2))) (ds := []) #[false, false, false, false, false, false, false, false, false, false, false, false, false, false, false, false, false, false] (by kernel_rfl) rfl rfl ⟨(blk_cell BK741.out 0).trans rfl, (blk_cell BK741.out 1).trans rfl, (blk_cell BK741.out 2).trans rfl, (Z.up HB.out hw752_0 :), (Z.up HB.out hw752_1 :), (Z.up HB.out hw752_2 :), (Z.up HB.out hw753_0 :), (Z.up HB.out hw753_1 :), (Z.up HB.out hw753_2 :), (Z.up HB.out hw754_0 :), (Z.up HB.out hw754_1 :), (Z.up HB.out hw754_2 :)⟩ (fun hHeld => ?_); refine with_tabW spec_ValidActs.tab8 spec_ValidActs.bits8 (fun HT_ HW_ => ?_)
        generalize wr.drew = w27 at HO_7 HO_8 BK741 HB hx752_0 hx752_1 hx752_2 hx753_0 hx753_1 hx753_2 hx754_0 hx754_1 hx754_2 hHeld ⊢
        refine Z.pv 1 31 18 2 HT_.out ?_
        refine Z.pv 2 32 18 6 HT_.out ?_
        refine Z.pv 3 33 18 14 HT_.out ?_
        refine Z.pv 4 34 18 30 HT_.out ?_
        refine Z.pv 5 35 18 62 HT_.out ?_
        refine Z.pv 7 37 18 190 HT_.out ?_
        refine Z.pv 8 38 18 446 HT_.out ?_
        refine Z.pv 9 39 18 958 HT_.out ?_
        refine Z.pv 10 40 18 1982 HT_.out ?_
        refine Z.pv 12 42 18 6078 HT_.out ?_
        refine Z.pv 13 43 18 14270 HT_.out ?_
        refine Z.pv 14 44 18 30654 HT_.out ?_
        refine Z.pv 15 45 18 63422 HT_.out ?_
        refine Z.t12 0 30 18 63423 HT_.out HW_.out hHeld ?_
        refine Z.t12 6 36 18 63487 HT_.out HW_.out hHeld ?_
        refine Z.t12 11 41 18 65535 HT_.out HW_.out hHeld ?_
        refine Z.t12 16 46 18 131071 HT_.out HW_.out hHeld ?_
        refine one_ (i := 17) (N := some 47) (Z.mb 18 262143) rfl rfl (one_of HT_.out (by kernel_rfl)) (by decide) (fun K hK => ?_)
        refine goes_ Try.func79 (by kernel_rfl) rfl #[.agg #[.int .i64 a0_0, .slice A0_1 l0_1.length c0_1, .slice A0_2 l0_2.length c0_2], .slice Ao28 x8_2.length co28, .int .i64 ((rd_T48 l2 x9_2).f0), .int .i64 ((rd_T48 l2 x9_2).f1), .int .i64 ((rd_T48 l2 x9_2).f2)] (by rfl) rfl rfl Z.ar ?_
        with_reducible refine (spec_MayChange.calls k2 a0_0 _ _ l0_1 _ _ l0_2 _ _ x8_2 ((rd_T48 l2 x9_2).f0) ((rd_T48 l2 x9_2).f1) ((rd_T48 l2 x9_2).f2) true _ ?q1 ?q2 ?q3 ?q4 ?q5 ?q6 A21.out).mono ?_
        (case q1 => exact Z.cc HR0_1 HB)
        (case q2 => exact HC0_1.out)
        (case q3 => exact Z.cc HR0_2 HB)
        (case q4 => exact HC0_2.out)
        (case q5 => exact (Kd.R_reads' HO_8.out).2.2)
        (case q6 => exact (Kd.R_reads' HO_8.out).2.1)
        rintro e w29 ⟨rfl, hb⟩
        refine ⟨_, rfl, ?_⟩
        replace HO_7 := Z.k (Kd.R_below HO_7.out hb)
        replace HO_8 := Z.k (Kd.R_below HO_8.out hb)
        replace BK741 := Z.bb BK741 hb
        replace HB := Z.st (Z.bs HB.out GE741.out) hb
        (try clear hb)
        refine hK.out _ _ ⟨(blk_cell BK741.out 0).trans rfl, (blk_cell BK741.out 1).trans rfl, (blk_cell BK741.out 2).trans rfl, (Z.up HB.out hw752_0 :), (Z.up HB.out hw752_1 :), (Z.up HB.out hw752_2 :), (Z.up HB.out hw753_0 :), (Z.up HB.out hw753_1 :), (Z.up HB.out hw753_2 :), (Z.up HB.out hw754_0 :), (Z.up HB.out hw754_1 :), (Z.up HB.out hw754_2 :)⟩ (fun hHeld => ?_)
        clear hK K
        refine Z.nm ?_
        refine done_ (done_of HT_.out (by kernel_rfl)) ?_
        try go_wp2
        replace HO_7 := Z.k (Kd.R_drew HO_7.out)
        replace HO_8 := Z.k (Kd.R_drew HO_8.out)
        replace BK741 := Z.k (blk_drew BK741.out)
        replace HB := Z.k (below_drew1 HB.out)
        have p756 : 0 ≤ (x9_2 : Int) := Z.od
        have q756 : x9_2 < (l2.length : Int) := Z.od
        obtain ⟨ad756, e756, hx756_0, hx756_1, hx756_2⟩ := at_T48 HR2.out x9_2 p756 q756
        have hw756_2 := hx756_2
        have hw756_1 := hx756_1
        have hw756_0 := hx756_0
        obtain rfl : ad752 = ad756 := (by injection e756)
        replace hx756_0 := Z.up HB.out hx756_0
        replace hx756_1 := Z.up HB.out hx756_1
        replace hx756_2 := Z.up HB.out hx756_2
        replace p756 := eq_true p756
        replace q756 := eq_true q756
        have p757 : 0 ≤ (x9_2 : Int) := Z.od
        have q757 : x9_2 < (l2.length : Int) := Z.od
        obtain ⟨ad757, e757, hx757_0, hx757_1, hx757_2⟩ := at_T48 HR2.out x9_2 p757 q757
        have hw757_2 := hx757_2
        have hw757_1 := hx757_1
        have hw757_0 := hx757_0
        obtain rfl : ad752 = ad757 := (by injection e757)
        replace hx757_0 := Z.up HB.out hx757_0
        replace hx757_1 := Z.up HB.out hx757_1
        replace hx757_2 := Z.up HB.out hx757_2
        replace p757 := eq_true p757
        replace q757 := eq_true q757
        have p25 : 0 ≤ (((rd_T48 l2 x9_2).f0) : Int) := Z.od
        have q25 : (((rd_T48 l2 x9_2).f0) : Int) < ((x8_2.length : Int) : Int) := Z.od
        obtain ⟨go25, co25, eo25, gb25, gl25, cl25, HG25⟩ := Kd.R_form HO_8.out (by omega)
        (cases eo25)
        have GB25 := Z.k gb25
        have GG25 := Z.k HG25
        clear gb25 gl25 HG25
        obtain ⟨hx25_0, hf25_0⟩ := Kd.R_celln 0 HO_8.out (((rd_T48 l2 x9_2).f0) : Int) p25 q25
        replace p25 := eq_true p25
        replace q25 := eq_true q25
        have HP31 := Kd.R_putn HO_8.out (((rd_T48 l2 x9_2).f0) : Int) ((rd_T48 l2 x9_2).f1)
        rw [← Ny758.out] at HP31
        have HQ31 := Z.k HP31
        clear HP31
        refine start_ (n := 13) (S := fun w' => w'.cell? (ad752.add ((x9_2).toNat * 3)) = some (.int .i64 ((rd_T48 l2 x9_2).f0)) ∧ w'.cell? ⟨(ad752.add ((x9_2).toNat * 3)).block, (ad752.add ((x9_2).toNat * 3)).off + 1, none⟩ = some (.int .i64 ((rd_T48 l2 x9_2).f1)) ∧ w'.cell? ⟨(ad752.add ((x9_2).toNat * 3)).block, (ad752.add ((x9_2).toNat * 3)).off + 2, none⟩ = some (.int .i64 ((rd_T48 l2 x9_2).f2)) ∧ w'.cell? (ad752.add ((x9_2).toNat * 3)) = some (.int .i64 ((rd_T48 l2 x9_2).f0)) ∧ w'.cell? ⟨(ad752.add ((x9_2).toNat * 3)).block, (ad752.add ((x9_2).toNat * 3)).off + 1, none⟩ = some (.int .i64 ((rd_T48 l2 x9_2).f1)) ∧ w'.cell? ⟨(ad752.add ((x9_2).toNat * 3)).block, (ad752.add ((x9_2).toNat * 3)).off + 2, none⟩ = some (.int .i64 ((rd_T48 l2 x9_2).f2))) (ds := [12]) #[false, false, false, false, false, false, false, false, false, false, false, false, false] (by kernel_rfl) rfl rfl ⟨(Z.up HB.out hw756_0 :), (Z.up HB.out hw756_1 :), (Z.up HB.out hw756_2 :), (Z.up HB.out hw757_0 :), (Z.up HB.out hw757_1 :), (Z.up HB.out hw757_2 :)⟩ (fun hHeld => ?_); refine with_tabW spec_ValidActs.tab9 spec_ValidActs.bits9 (fun HT_ HW_ => ?_)
        generalize w29.drew = w30 at HO_7 HO_8 BK741 HB GG25 HQ31 hf25_0 hx25_0 hx756_0 hx756_1 hx756_2 hx757_0 hx757_1 hx757_2 hHeld ⊢
        refine Z.pv 0 48 13 1 HT_.out ?_
        refine Z.pv 1 49 13 3 HT_.out ?_
        refine Z.pv 2 50 13 7 HT_.out ?_
        refine Z.pv 3 51 13 15 HT_.out ?_
        refine Z.pv 4 52 13 31 HT_.out ?_
        refine Z.pv 6 54 13 95 HT_.out ?_
        refine Z.pv 7 55 13 223 HT_.out ?_
        refine Z.pv 8 56 13 479 HT_.out ?_
        refine Z.pv 9 57 13 991 HT_.out ?_
        refine Z.t6 5 53 13 1023 HT_.out HW_.out hHeld ?_
        refine Z.t6 10 58 13 2047 HT_.out HW_.out hHeld ?_
        refine Z.pv 11 59 13 4095 HT_.out ?_
        refine last_ (i := 12) (N := none) #[true, true, true, true, true, true, true, true, true, true, true, true, true] rfl rfl (one_of HT_.out (by kernel_rfl)) (by decide) (fun K hK => ?_)
        refine skip_ (w1 := ?_) (by rfl) rfl ?_ ?_
        rotate_left
        ·go_simp
         rfl
        refine hK.out _ _ ?_
        clear hK K
        refine done_ (done_of HT_.out (by kernel_rfl)) ?_
        have p759 : 0 ≤ (x9_2 : Int) := Z.od
        have q759 : x9_2 < (l2.length : Int) := Z.od
        obtain ⟨ad759, e759, hx759_0, hx759_1, hx759_2⟩ := at_T48 HR2.out x9_2 p759 q759
        obtain rfl : ad752 = ad759 := (by injection e759)
        have hn759_0 : ad752.block ≠ go25 := Nat.ne_of_lt (Nat.lt_of_lt_of_le (by have := World.block_lt_of_cell? _ _ hx759_0; rwa [add_block] at this) GB25.out)
        replace hx759_0 := Z.up HB.out hx759_0
        replace hx759_1 := Z.up HB.out hx759_1
        replace hx759_2 := Z.up HB.out hx759_2
        replace hx759_0 := (cell_far (p := ⟨go25, (((rd_T48 l2 x9_2).f0) : Int).toNat, none⟩) (by (rw [add_block]; exact hn759_0)) (.int .i64 ((rd_T48 l2 x9_2).f1))).trans hx759_0
        replace hx759_1 := (cell_far (p := ⟨go25, (((rd_T48 l2 x9_2).f0) : Int).toNat, none⟩) (by (rw [add_block]; exact hn759_0)) (.int .i64 ((rd_T48 l2 x9_2).f1))).trans hx759_1
        replace hx759_2 := (cell_far (p := ⟨go25, (((rd_T48 l2 x9_2).f0) : Int).toNat, none⟩) (by (rw [add_block]; exact hn759_0)) (.int .i64 ((rd_T48 l2 x9_2).f1))).trans hx759_2
        clear hn759_0
        replace p759 := eq_true p759
        replace q759 := eq_true q759
        try go_wp2_with (((with_reducible refine gate_builtin (b := .append) (xs := #[.tmp 60, .tmp 65]) rfl ?_); (try (refine gate_guard (by rfl) ?_; dsimp only)); at_builtin; refine Kd.R_append k48 (w0 := w) w.heap.size rfl (.tmp 60) (.tmp 65) 58 48 (.agg #[(.int .i64 0), (.int .i64 0), (.int .i64 0)]) 24 rfl Try.underlying58 info48 rfl (by decide) (by omega) u7 x7_2 (⟨(rd_T48 l2 x9_2).f0, (rd_T48 l2 x9_2).f1, (rd_T48 l2 x9_2).f2⟩ : S48) [.int .i64 ((rd_T48 l2 x9_2).f0), .int .i64 ((rd_T48 l2 x9_2).f1), .int .i64 ((rd_T48 l2 x9_2).f2)] (fun _ => True) (fun _ => False) rfl (by (go_simp; done)) ?aP (fun _ hk => hk.elim) ?aF ?aO ?aB ?aS ?aL ?_; (case aP => exact k48_mkM _ _ _ (⟨(rd_T48 l2 x9_2).f0, (rd_T48 l2 x9_2).f1, (rd_T48 l2 x9_2).f2⟩ : S48)); (case aB => exact (by repeat ((with_reducible first | exact HB.out | refine below_set ?_ GB25.out)))); (case aF => exact (fun _ _ => trivial)); (case aO => exact (Kd.R_mono (Kd.R_far (p := ⟨go25, (((rd_T48 l2 x9_2).f0) : Int).toNat, none⟩) (Kd.R_types HO_7.out GG25.out (by decide)) (fun _ hk => hk.2) (.int .i64 ((rd_T48 l2 x9_2).f1))) (fun _ hk => trivial))); (case aS => exact (below_size (by repeat ((with_reducible first | exact HB.out | refine below_set ?_ GB25.out))))); (case aL => have := LMc26.out; omega); intro v761 w32 ho hb hg hat; rw [← Ny760.out] at ho; replace BK741 := Z.k (blk_grown (g := gb741) (o := .cells #[.int .i64 a0_0, .slice A0_1 l0_1.length c0_1, .slice A0_2 l0_2.length c0_2] 46 (0, 0)) (by refine blk_far ?_ (by have h_ := Kd.R_ne HO_8.out BK741.out (by decide); intro e_; exact h_ (by rw [e_]; rfl)) _; exact BK741.out) hg (Kd.R_ne HO_7.out BK741.out (by decide))); replace HO_8 := Z.k (Kd.R_over' HQ31.out (Kd.R_typed (Kd.R_mono (Kd.R_far (p := ⟨go25, (((rd_T48 l2 x9_2).f0) : Int).toNat, none⟩) (Kd.R_types HO_7.out GG25.out (by decide)) (fun _ hk => hk.2) (.int .i64 ((rd_T48 l2 x9_2).f1))) (fun _ h_ => h_.1))) (by decide) hg); replace HB := Z.k hb; have HO762 := Z.k ho; clear HO_7; clear ho hb hg hat))
        go_roundg k2
        case measure => have := HJ3.out; have := HK2.out; omega
        case rel => exact ⟨(y760), (y758), (wrap64 (x9_2 + 1)), (by rfl), H', ⟨by have := HJ3.out; have := HK2.out; omega⟩, ⟨by exact HO762.out⟩, ⟨by exact HO_8.out⟩, ⟨by exact BK741.out⟩, ⟨Z.bs HB.out GE741.out⟩⟩
       ·replace c22 := Bool.eq_false_iff.mpr c22
        subst c22
        rw [if_neg (show ¬ (false = true) by decide)] at H
        have H' := Z.k H
        clear H
        try go_wp2
        replace HO_7 := Z.k (Kd.R_drew HO_7.out)
        replace HO_8 := Z.k (Kd.R_drew HO_8.out)
        replace BK741 := Z.k (blk_drew BK741.out)
        replace HB := Z.k (below_drew1 HB.out)
        have p752 : 0 ≤ (x9_2 : Int) := Z.od
        have q752 : x9_2 < (l2.length : Int) := Z.od
        obtain ⟨ad752, rfl, hx752_0, hx752_1, hx752_2⟩ := at_T48 HR2.out x9_2 p752 q752
        have hw752_2 := hx752_2
        have hw752_1 := hx752_1
        have hw752_0 := hx752_0
        replace hx752_0 := Z.up HB.out hx752_0
        replace hx752_1 := Z.up HB.out hx752_1
        replace hx752_2 := Z.up HB.out hx752_2
        replace p752 := eq_true p752
        replace q752 := eq_true q752
        have p753 : 0 ≤ (x9_2 : Int) := Z.od
        have q753 : x9_2 < (l2.length : Int) := Z.od
        obtain ⟨ad753, e753, hx753_0, hx753_1, hx753_2⟩ := at_T48 HR2.out x9_2 p753 q753
        have hw753_2 := hx753_2
        have hw753_1 := hx753_1
        have hw753_0 := hx753_0
        obtain rfl : ad752 = ad753 := (by injection e753)
        replace hx753_0 := Z.up HB.out hx753_0
        replace hx753_1 := Z.up HB.out hx753_1
        replace hx753_2 := Z.up HB.out hx753_2
        replace p753 := eq_true p753
        replace q753 := eq_true q753
        have p754 : 0 ≤ (x9_2 : Int) := Z.od
        have q754 : x9_2 < (l2.length : Int) := Z.od
        obtain ⟨ad754, e754, hx754_0, hx754_1, hx754_2⟩ := at_T48 HR2.out x9_2 p754 q754
        have hw754_2 := hx754_2
        have hw754_1 := hx754_1
        have hw754_0 := hx754_0
        obtain rfl : ad752 = ad754 := (by injection e754)
        replace hx754_0 := Z.up HB.out hx754_0
        replace hx754_1 := Z.up HB.out hx754_1
        replace hx754_2 := Z.up HB.out hx754_2
        replace p754 := eq_true p754
        replace q754 := eq_true q754
        obtain ⟨Ao34, co34, eo34⟩ := Kd.R_slice HO_8.out
        (subst eo34)
        refine start_ (n := 18) (S := fun w' => w'.cell? ⟨gb741, 0, none⟩ = some (.int .i64 a0_0) ∧ w'.cell? ⟨gb741, 1, none⟩ = some (.slice A0_1 l0_1.length c0_1) ∧ w'.cell? ⟨gb741, 2, none⟩ = some (.slice A0_2 l0_2.length c0_2) ∧ w'.cell? (ad752.add ((x9_2).toNat * 3)) = some (.int .i64 ((rd_T48 l2 x9_2).f0)) ∧ w'.cell? ⟨(ad752.add ((x9_2).toNat * 3)).block, (ad752.add ((x9_2).toNat * 3)).off + 1, none⟩ = some (.int .i64 ((rd_T48 l2 x9_2).f1)) ∧ w'.cell? ⟨(ad752.add ((x9_2).toNat * 3)).block, (ad752.add ((x9_2).toNat * 3)).off + 2, none⟩ = some (.int .i64 ((rd_T48 l2 x9_2).f2)) ∧ w'.cell? (ad752.add ((x9_2).toNat * 3)) = some (.int .i64 ((rd_T48 l2 x9_2).f0)) ∧ w'.cell? ⟨(ad752.add ((x9_2).toNat * 3)).block, (ad752.add ((x9_2).toNat * 3)).off + 1, none⟩ = some (.int .i64 ((rd_T48 l2 x9_2).f1)) ∧ w'.cell? ⟨(ad752.add ((x9_2).toNat * 3)).block, (ad752.add ((x9_2).toNat * 3)).off + 2, none⟩ = some (.int .i64 ((rd_T48 l2 x9_2).f2)) ∧ w'.cell? (ad752.add ((x9_2).toNat * 3)) = some (.int .i64 ((rd_T48 l2 x9_2).f0)) ∧ w'.cell? ⟨(ad752.add ((x9_2).toNat * 3)).block, (ad752.add ((x9_2).toNat * 3)).off + 1, none⟩ = some (.int .i64 ((rd_T48 l2 x9_2).f1)) ∧ w'.cell? ⟨(ad752.add ((x9_2).toNat * 3)).block, (ad752.add ((x9_2).toNat * 3)).off + 2, none⟩ = some (.int .i64 ((rd_T48 l2 x9_2).f2))) (ds := []) #[false, false, false, false, false, false, false, false, false, false, false, false, false, false, false, false, false, false] (by kernel_rfl) rfl rfl ⟨(blk_cell BK741.out 0).trans rfl, (blk_cell BK741.out 1).trans rfl, (blk_cell BK741.out 2).trans rfl, (Z.up HB.out hw752_0 :), (Z.up HB.out hw752_1 :), (Z.up HB.out hw752_2 :), (Z.up HB.out hw753_0 :), (Z.up HB.out hw753_1 :), (Z.up HB.out hw753_2 :), (Z.up HB.out hw754_0 :), (Z.up HB.out hw754_1 :), (Z.up HB.out hw754_2 :)⟩ (fun hHeld => ?_); refine with_tabW spec_ValidActs.tab8 spec_ValidActs.bits8 (fun HT_ HW_ => ?_)
        generalize wr.drew = w33 at HO_7 HO_8 BK741 HB hx752_0 hx752_1 hx752_2 hx753_0 hx753_1 hx753_2 hx754_0 hx754_1 hx754_2 hHeld ⊢
        refine Z.pv 1 31 18 2 HT_.out ?_
        refine Z.pv 2 32 18 6 HT_.out ?_
        refine Z.pv 3 33 18 14 HT_.out ?_
        refine Z.pv 4 34 18 30 HT_.out ?_
        refine Z.pv 5 35 18 62 HT_.out ?_
        refine Z.pv 7 37 18 190 HT_.out ?_
        refine Z.pv 8 38 18 446 HT_.out ?_
        refine Z.pv 9 39 18 958 HT_.out ?_
        refine Z.pv 10 40 18 1982 HT_.out ?_
        refine Z.pv 12 42 18 6078 HT_.out ?_
        refine Z.pv 13 43 18 14270 HT_.out ?_
        refine Z.pv 14 44 18 30654 HT_.out ?_
        refine Z.pv 15 45 18 63422 HT_.out ?_
        refine Z.t12 0 30 18 63423 HT_.out HW_.out hHeld ?_
        refine Z.t12 6 36 18 63487 HT_.out HW_.out hHeld ?_
        refine Z.t12 11 41 18 65535 HT_.out HW_.out hHeld ?_
        refine Z.t12 16 46 18 131071 HT_.out HW_.out hHeld ?_
        refine one_ (i := 17) (N := some 47) (Z.mb 18 262143) rfl rfl (one_of HT_.out (by kernel_rfl)) (by decide) (fun K hK => ?_)
        refine goes_ Try.func79 (by kernel_rfl) rfl #[.agg #[.int .i64 a0_0, .slice A0_1 l0_1.length c0_1, .slice A0_2 l0_2.length c0_2], .slice Ao34 x8_2.length co34, .int .i64 ((rd_T48 l2 x9_2).f0), .int .i64 ((rd_T48 l2 x9_2).f1), .int .i64 ((rd_T48 l2 x9_2).f2)] (by rfl) rfl rfl Z.ar ?_
        with_reducible refine (spec_MayChange.calls k2 a0_0 _ _ l0_1 _ _ l0_2 _ _ x8_2 ((rd_T48 l2 x9_2).f0) ((rd_T48 l2 x9_2).f1) ((rd_T48 l2 x9_2).f2) false _ ?q1 ?q2 ?q3 ?q4 ?q5 ?q6 A21.out).mono ?_
        (case q1 => exact Z.cc HR0_1 HB)
        (case q2 => exact HC0_1.out)
        (case q3 => exact Z.cc HR0_2 HB)
        (case q4 => exact HC0_2.out)
        (case q5 => exact (Kd.R_reads' HO_8.out).2.2)
        (case q6 => exact (Kd.R_reads' HO_8.out).2.1)
        rintro e w35 ⟨rfl, hb⟩
        refine ⟨_, rfl, ?_⟩
        replace HO_7 := Z.k (Kd.R_below HO_7.out hb)
        replace HO_8 := Z.k (Kd.R_below HO_8.out hb)
        replace BK741 := Z.bb BK741 hb
        replace HB := Z.st (Z.bs HB.out GE741.out) hb
        (try clear hb)
        refine hK.out _ _ ⟨(blk_cell BK741.out 0).trans rfl, (blk_cell BK741.out 1).trans rfl, (blk_cell BK741.out 2).trans rfl, (Z.up HB.out hw752_0 :), (Z.up HB.out hw752_1 :), (Z.up HB.out hw752_2 :), (Z.up HB.out hw753_0 :), (Z.up HB.out hw753_1 :), (Z.up HB.out hw753_2 :), (Z.up HB.out hw754_0 :), (Z.up HB.out hw754_1 :), (Z.up HB.out hw754_2 :)⟩ (fun hHeld => ?_)
        clear hK K
        refine Z.nm ?_
        refine done_ (done_of HT_.out (by kernel_rfl)) ?_
        try go_wp2
        go_roundg k2
        case measure => have := HJ3.out; have := HK2.out; omega
        case rel => exact ⟨(x7_2), (x8_2), (wrap64 (x9_2 + 1)), (by rfl), H', ⟨by have := HJ3.out; have := HK2.out; omega⟩, ⟨by exact HO_7.out⟩, ⟨by exact HO_8.out⟩, ⟨by exact BK741.out⟩, ⟨Z.bs HB.out GE741.out⟩⟩
      ·rw [if_neg c19] at H
       have c19b0 := decide_eq_false c19
       clear c19
       obtain rfl := Option.some.inj H
       go_wp2
       go_ret
       exact ⟨_, by rfl, by exact HO_7.out, Z.bs HB.out GE741.out⟩

end Go.Proofs.Ytojoblllgddckaa.PAll

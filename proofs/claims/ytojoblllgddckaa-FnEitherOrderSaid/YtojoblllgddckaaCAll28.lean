/- Walks of functions that laws of this seat reach, in the form of the print. -/
import Derived.Test.YtojoblllgddckaaCAll0
import Derived.Test.YtojoblllgddckaaCAll1
import Derived.Test.YtojoblllgddckaaCAll21
import Derived.Test.YtojoblllgddckaaCAll25
import Derived.Test.YtojoblllgddckaaZ
-- PRINTED
namespace Go.Proofs.Ytojoblllgddckaa.PAll
open Go.RowKit Go.Proofs.YtojoblllgddckaaW.PrintWords Go.Proofs.YtojoblllgddckaaW.PrintLast Go.Proofs.YtojoblllgddckaaW.PrintMore
attribute [local go_sem] max2_int min2_int max_two min_two max_three min_three max_four min_four
set_option linter.unusedVariables false
set_option linter.unusedSimpArgs false

/-! ### spec_FirstVoid: function 34 -/
mutual
def spec_FirstVoid.j0 : Nat → List Int → List (S48) → Bool → Int → List Int → List (List (S91)) → Option (Int)
 | 0, _, _, _, _, _, _ => none
 | k + 1, x1, x2, x17, x825000, x825001, x825002 => if x17 = true then (some (-1)) else ((some (([] : List Int) : List Int)).bind fun y826 => (if y826.length + x1.length < 17592186044416 then (spec_FirstVoid.l0 k x2 (y826 ++ x1) 0 x825000 x825001 x825002) else (none)))
def spec_FirstVoid.l0 : Nat → List (S48) → List Int → Int → Int → List Int → List (List (S91)) → Option (Int)
 | 0, _, _, _, _, _, _ => none
 | k + 1, x2, x7, x8, x825000, x825001, x825002 => if x8 < (x2.length : Int) then (if 0 ≤ x8 then ((spec_MayChange.f k x825000 x825001 x825002 x7 ((rd_T48 x2 x8).f0) ((rd_T48 x2 x8).f1) ((rd_T48 x2 x8).f2)).bind fun t835 => (if t835 = true then (if 0 ≤ ((rd_T48 x2 x8).f0) then (if ((rd_T48 x2 x8).f0) < (x7.length : Int) then (spec_FirstVoid.l0 k x2 (x7.set (((rd_T48 x2 x8).f0) : Int).toNat ((rd_T48 x2 x8).f1)) (wrap64 (x8 + 1)) x825000 x825001 x825002) else (none)) else (none)) else (some x8))) else (none)) else (some (-1))
end
def spec_FirstVoid.f (k : Nat) (a0_0 : Int) (l0_1 : List Int) (l0_2 : List (List (S91))) (l1 : List Int) (l2 : List (S48)) : Option (Int) := (spec_StateOk.f k a0_0 l0_1 l0_2 l1).bind fun t825 => (if t825 = true then (spec_FirstVoid.j0 k l1 l2 (decide ((l2.length : Int) > 12)) a0_0 l0_1 l0_2) else (spec_FirstVoid.j0 k l1 l2 true a0_0 l0_1 l0_2))
def spec_FirstVoid.T7 : Bool × List (List Nat × List Nat) := (true, [([], []), ([], []), ([], []), ([], []), ([2, 3], [2, 3]), ([4], [4]), ([5], [5]), ([], []), ([], []), ([7, 8], [7, 8]), ([9], [9]), ([10], [10]), ([], []), ([], []), ([12, 13], [12, 13]), ([14], [14]), ([15], [15]), ([0, 1, 6, 11, 16], [0, 1, 6, 11, 16]), ([17], [17])])
def spec_FirstVoid.B7 : List Nat := [0, 0, 0, 0, 12, 28, 60, 0, 0, 384, 896, 1920, 0, 0, 12288, 28672, 61440, 131071, 262143]
theorem spec_FirstVoid.tab7 : rtab .any (opsOf Try.f34 7) = spec_FirstVoid.T7 := by kernel_rfl
theorem spec_FirstVoid.bits7 : waitsOk spec_FirstVoid.T7.2 spec_FirstVoid.B7 = true := by kernel_rfl
def spec_FirstVoid.T9 : Bool × List (List Nat × List Nat) := (true, [([], []), ([], []), ([], []), ([1, 2], [1, 2]), ([3], [3]), ([4], [4]), ([], []), ([], []), ([6, 7], [6, 7]), ([8], [8]), ([9], [9]), ([0, 5, 0, 1, 2, 3, 4, 5, 6, 7, 8, 9, 10], [0, 5]), ([11, 10, 0, 1, 2, 3, 4, 5, 6, 7, 8, 9, 10], [10, 11])])
def spec_FirstVoid.B9 : List Nat := [0, 0, 0, 6, 14, 30, 0, 0, 192, 448, 960, 2047, 4095]
theorem spec_FirstVoid.tab9 : rtab .any (opsOf Try.f34 9) = spec_FirstVoid.T9 := by kernel_rfl
theorem spec_FirstVoid.bits9 : waitsOk spec_FirstVoid.T9.2 spec_FirstVoid.B9 = true := by kernel_rfl
set_option maxHeartbeats 8000000 in
set_option maxRecDepth 100000 in
theorem spec_FirstVoid.calls (k : Nat) (a0_0 : Int) (A0_1 : Option Addr) (c0_1 : Nat) (l0_1 : List Int) (A0_2 : Option Addr) (c0_2 : Nat) (l0_2 : List (List (S91))) (A1 : Option Addr) (c1 : Nat) (l1 : List Int) (A2 : Option Addr) (c2 : Nat) (l2 : List (S48)) (r : Int) (w : World) (hr0_1 : Kd.C (Kd.int .i64) w A0_1 l0_1.length l0_1) (hc0_1 : l0_1.length ≤ c0_1) (hr0_2 : Kd.C (Kd.slice 91 k91) w A0_2 l0_2.length l0_2) (hc0_2 : l0_2.length ≤ c0_2) (hr1 : Kd.C (Kd.int .i64) w A1 l1.length l1) (hc1 : l1.length ≤ c1) (hr2 : Kd.C k48 w A2 l2.length l2) (hc2 : l2.length ≤ c2) (h : spec_FirstVoid.f k a0_0 l0_1 l0_2 l1 l2 = some r) :
  Calls Try.prog 34 #[.agg #[.int .i64 a0_0, .slice A0_1 l0_1.length c0_1, .slice A0_2 l0_2.length c0_2], .slice A1 l1.length c1, .slice A2 l2.length c2] w fun e w' => e = .returned (.int .i64 r) ∧ Below w.heap.size w w' := by
 have hu46 := Try.underlying46
 have HR0_1 := Z.k hr0_1
 have HC0_1 := Z.k hc0_1
 clear hr0_1 hc0_1
 have HR0_2 := Z.k hr0_2
 have HC0_2 := Z.k hc0_2
 clear hr0_2 hc0_2
 have HR1 := Z.k hr1
 have HC1 := Z.k hc1
 clear hr1 hc1
 have HR2 := Z.k hr2
 have HC2 := Z.k hc2
 clear hr2 hc2
 have HB := Z.k (Below.refl w.heap.size w)
 have H := h
 clear h
 unfold spec_FirstVoid.f at H
 have HC4 := Z.k H
 clear H
 go_enter Try.func34, Try.ntmps34
 go_upto_region 1 with (((with_reducible refine gate_dst (N := 3) rfl ?_); (try (refine gate_guard (by rfl) ?_; dsimp only)); refine Z.bx #[.int .i64 a0_0, .slice A0_1 l0_1.length c0_1, .slice A0_2 l0_2.length c0_2] 46 HB ?_; clear HB; intro gb824 w5 BK824 GE824 HB hg hb; have GW824 := GE824; clear hb hg))
 go_cut [17] (fun v17 wc => ∃ (kq : Nat) (x17_3 : Bool), v17 = .bool x17_3 ∧ Aside0 (spec_FirstVoid.j0 kq l1 l2 x17_3 a0_0 l0_1 l0_2 = some r) ∧ Aside0 (kq ≤ k) ∧ Aside0 (wc.heap[gb824]? = some (.cells #[.int .i64 a0_0, (.slice A0_1 l0_1.length c0_1), (.slice A0_2 l0_2.length c0_2)] 46 (0, 0))) ∧ Aside0 (Below w.heap.size w wc))
 case first =>
  have H := HC4.out
  clear HC4
  replace H := Option.bind_eq_some_iff.mp H
  obtain ⟨t825, A60, H⟩ := H
  have A6 := Z.k A60
  clear A60
  by_cases c7 : t825 = true
  ·subst c7
   rw [if_pos rfl] at H
   have H' := Z.k H
   clear H
   have hcz8 := Z.c3 BK824.out
   go_wp2_with (((with_reducible refine gate_callee (f := 29) rfl ?_); refine goesL_ (some 11) rfl rfl Try.func29 (by kernel_rfl) rfl #[.agg #[.int .i64 a0_0, .slice A0_1 l0_1.length c0_1, .slice A0_2 l0_2.length c0_2], .slice A1 l1.length c1] rfl Z.ar ?_; (with_reducible refine (spec_StateOk.calls k a0_0 _ _ l0_1 _ _ l0_2 _ _ l1 true _ ?q1 ?q2 ?q3 ?q4 ?q5 ?q6 A6.out).mono ?_); (case q1 => exact Z.cc HR0_1 HB); (case q2 => exact HC0_1.out); (case q3 => exact Z.cc HR0_2 HB); (case q4 => exact HC0_2.out); (case q5 => exact Z.cc HR1 HB); (case q6 => exact HC1.out); rintro e w9 ⟨rfl, hb⟩; refine ⟨_, rfl, ?_⟩; replace BK824 := Z.bb BK824 hb; replace HB := Z.st (Z.bs HB.out GE824.out) hb; (try clear hb)))
   go_meet
   case rel => exact ⟨_, (decide ((l2.length : Int) > 12)), (by rfl), H', ⟨by omega⟩, ⟨by (with_reducible skip); exact BK824.out⟩, ⟨Z.bs HB.out GE824.out⟩⟩
  ·replace c7 := Bool.eq_false_iff.mpr c7
   subst c7
   rw [if_neg (show ¬ (false = true) by decide)] at H
   have H' := Z.k H
   clear H
   have hcz10 := Z.c3 BK824.out
   go_wp2_with (((with_reducible refine gate_callee (f := 29) rfl ?_); refine goesL_ (some 11) rfl rfl Try.func29 (by kernel_rfl) rfl #[.agg #[.int .i64 a0_0, .slice A0_1 l0_1.length c0_1, .slice A0_2 l0_2.length c0_2], .slice A1 l1.length c1] rfl Z.ar ?_; (with_reducible refine (spec_StateOk.calls k a0_0 _ _ l0_1 _ _ l0_2 _ _ l1 false _ ?q1 ?q2 ?q3 ?q4 ?q5 ?q6 A6.out).mono ?_); (case q1 => exact Z.cc HR0_1 HB); (case q2 => exact HC0_1.out); (case q3 => exact Z.cc HR0_2 HB); (case q4 => exact HC0_2.out); (case q5 => exact Z.cc HR1 HB); (case q6 => exact HC1.out); rintro e w11 ⟨rfl, hb⟩; refine ⟨_, rfl, ?_⟩; replace BK824 := Z.bb BK824 hb; replace HB := Z.st (Z.bs HB.out GE824.out) hb; (try clear hb)))
   go_meet
   case rel => exact ⟨_, (true), (by rfl), H', ⟨by omega⟩, ⟨by (with_reducible skip); exact BK824.out⟩, ⟨Z.bs HB.out GE824.out⟩⟩
 case rest =>
  clear HC4
  obtain ⟨kq, x17_3, rfl, HA, HJ3, BK824, HB⟩ := hcut
  cases kq with
  | zero => exact absurd HA.out (by simp [spec_FirstVoid.j0])
  | succ kj3 =>
   have H := HA.out
   clear HA
   simp only [spec_FirstVoid.j0] at H
   by_cases c12 : x17_3 = true
   ·subst c12
    rw [if_pos rfl] at H
    obtain rfl := Option.some.inj H
    go_wp2
    go_ret
    exact ⟨by rfl, Z.bs HB.out GE824.out⟩
   ·replace c12 := Bool.eq_false_iff.mpr c12
    subst c12
    rw [if_neg (show ¬ (false = true) by decide)] at H
    obtain ⟨y826, hy826⟩ : ∃ y_ : List Int, y_ = (([] : List Int)) := ⟨_, rfl⟩
    replace H : (if y826.length + l1.length < 17592186044416 then (spec_FirstVoid.l0 kj3 l2 (y826 ++ l1) 0 a0_0 l0_1 l0_2) else (none)) = some r := by (have H2_ := (Option.bind_some _ _).symm.trans H; rw [hy826]; with_reducible exact H2_)
    have Ny826 := Z.k hy826
    clear hy826
    obtain ⟨c13, H⟩ := Z.ifp H
    have LMc13 := Z.k c13
    clear c13
    obtain ⟨y829, hy829⟩ : ∃ y_ : List Int, y_ = (y826 ++ l1) := ⟨_, rfl⟩
    replace H : (spec_FirstVoid.l0 kj3 l2 y829 0 a0_0 l0_1 l0_2) = some r := by (rw [hy829]; with_reducible exact H)
    have Ny829 := Z.k hy829
    clear hy829
    have H' := Z.k H
    clear H
    go_wp2_with (first | ((with_reducible refine gate_dst (N := 18) rfl ?_); (try (refine gate_guard (by rfl) ?_; dsimp only)); refine Kd.R_lit (Kd.int .i64) _ 3 ?hg (N := 18) ?hd (xs := ([] : List Int)) (inner := []) (ok := fun _ => True) (okp := fun _ => True) ?hr ?hp (fun _ hk => hk) trivial (Below.refl _ _) (Nat.le_refl _) (by simp) ?_; (case hd | hg => rfl); (case hr => (go_simp; done)); (case hp => exact (Reps.none _ _)); intro v827 w14 ho15 hb hg_ hnew_; clear hg_ hnew_; (rw [← Ny826.out] at ho15); have HO828 := Z.k (Kd.R_lower ho15 (below_size (Z.bs HB.out GE824.out))); replace BK824 := Z.bb BK824 hb; replace HB := Z.st (Z.bs HB.out GE824.out) hb; clear hb ho15) | ((with_reducible refine gate_builtin (b := .append) (xs := #[.tmp 18, .tmp 19]) rfl ?_); (try (refine gate_guard (by rfl) ?_; dsimp only)); at_builtin; refine Kd.R_append_rows (Kd.int .i64) (w0 := w) w.heap.size rfl (.tmp 18) (.tmp 19) 23 3 (.int .i64 0) 8 rfl Try.underlying23 info3 rfl (by decide) (by omega) v827 y826 l1 _ _ _ (fun _ => True) (fun _ => False) rfl rfl ?aO ?aR (fun _ _ h => h) (fun _ h => h.elim) ?aF ?aB ?aS ?aL ?_; (case aR => exact Z.cc HR1 HB); (case aB => exact (Z.bs HB.out GE824.out)); (case aF => exact (fun _ _ => trivial)); (case aO => exact (by (with_reducible skip); exact HO828.out)); (case aS => exact (below_size (Z.bs HB.out GE824.out))); (case aL => have := LMc13.out; omega); intro v830 w16 ho hb hg hat; rw [← Ny829.out] at ho; replace BK824 := Z.k (blk_grown (g := gb824) (o := .cells #[.int .i64 a0_0, .slice A0_1 l0_1.length c0_1, .slice A0_2 l0_2.length c0_2] 46 (0, 0)) (Z.bk BK824.out) hg (Kd.R_ne HO828.out BK824.out (by decide))); replace HB := Z.k (hb); have HO831 := Z.k (ho); clear HO828; clear ho hb hg hat))
    go_loopg [8] kj3 (fun kq v8 w' => ∃ (x7_2 : List Int) (x8_2 : Int), v8 = .int .i64 x8_2 ∧ Aside0 (spec_FirstVoid.l0 kq l2 x7_2 x8_2 a0_0 l0_1 l0_2 = some r) ∧ Aside0 (kq ≤ kj3) ∧ Aside0 (Kd.R (Kd.int .i64) 3 w' w.heap.size (fun _ => True) v830 x7_2) ∧ Aside0 (w'.heap[gb824]? = some (.cells #[.int .i64 a0_0, (.slice A0_1 l0_1.length c0_1), (.slice A0_2 l0_2.length c0_2)] 46 (0, 0))) ∧ Aside0 (Below w.heap.size w w'))
    case atStart => exact ⟨(y829), (0), (by rfl), H', ⟨Nat.le_refl _⟩, ⟨by (with_reducible skip); exact HO831.out⟩, ⟨by (with_reducible skip); exact BK824.out⟩, ⟨Z.bs HB.out GE824.out⟩⟩
    case round =>
     clear H'
     obtain ⟨x7_2, x8_2, rfl, HA, HK2, HO_7, BK824, HB⟩ := hrel
     cases gk with
     | zero => exact absurd HA.out (by simp [spec_FirstVoid.l0])
     | succ k2 =>
      have H := HA.out
      clear HA
      simp only [spec_FirstVoid.l0] at H
      by_cases c17 : x8_2 < (l2.length : Int)
      ·rw [if_pos c17] at H
       have c17b0 := decide_eq_true c17
       clear c17
       obtain ⟨c18, H⟩ := Z.ifp H
       have c18b0 : decide (0 ≤ x8_2) = true := decide_eq_true c18
       clear c18
       replace H := Option.bind_eq_some_iff.mp H
       obtain ⟨t835, A190, H⟩ := H
       have A19 := Z.k A190
       clear A190
       by_cases c20 : t835 = true
       ·subst c20
        rw [if_pos rfl] at H
        obtain ⟨c21, H⟩ := Z.ifp H
        have c21b0 : decide (0 ≤ ((rd_T48 l2 x8_2).f0)) = true := decide_eq_true c21
        clear c21
        obtain ⟨c22, H⟩ := Z.ifp H
        have c22b0 : decide (((rd_T48 l2 x8_2).f0) < (x7_2.length : Int)) = true := decide_eq_true c22
        clear c22
        obtain ⟨y838, hy838⟩ : ∃ y_ : List Int, y_ = (x7_2.set (((rd_T48 l2 x8_2).f0) : Int).toNat ((rd_T48 l2 x8_2).f1)) := ⟨_, rfl⟩
        replace H : (spec_FirstVoid.l0 k2 l2 y838 (wrap64 (x8_2 + 1)) a0_0 l0_1 l0_2) = some r := by (rw [hy838]; with_reducible exact H)
        have Ny838 := Z.k hy838
        clear hy838
        have H' := Z.k H
        clear H
        try go_wp2
        replace HO_7 := Z.k (Kd.R_drew HO_7.out)
        replace BK824 := Z.k (blk_drew BK824.out)
        replace HB := Z.k (below_drew1 HB.out)
        have p832 : 0 ≤ (x8_2 : Int) := Z.od
        have q832 : x8_2 < (l2.length : Int) := Z.od
        obtain ⟨ad832, rfl, hx832_0, hx832_1, hx832_2⟩ := at_T48 HR2.out x8_2 p832 q832
        have hw832_2 := hx832_2
        have hw832_1 := hx832_1
        have hw832_0 := hx832_0
        replace hx832_0 := Z.up HB.out hx832_0
        replace hx832_1 := Z.up HB.out hx832_1
        replace hx832_2 := Z.up HB.out hx832_2
        replace p832 := eq_true p832
        replace q832 := eq_true q832
        have p833 : 0 ≤ (x8_2 : Int) := Z.od
        have q833 : x8_2 < (l2.length : Int) := Z.od
        obtain ⟨ad833, e833, hx833_0, hx833_1, hx833_2⟩ := at_T48 HR2.out x8_2 p833 q833
        have hw833_2 := hx833_2
        have hw833_1 := hx833_1
        have hw833_0 := hx833_0
        obtain rfl : ad832 = ad833 := (by injection e833)
        replace hx833_0 := Z.up HB.out hx833_0
        replace hx833_1 := Z.up HB.out hx833_1
        replace hx833_2 := Z.up HB.out hx833_2
        replace p833 := eq_true p833
        replace q833 := eq_true q833
        have p834 : 0 ≤ (x8_2 : Int) := Z.od
        have q834 : x8_2 < (l2.length : Int) := Z.od
        obtain ⟨ad834, e834, hx834_0, hx834_1, hx834_2⟩ := at_T48 HR2.out x8_2 p834 q834
        have hw834_2 := hx834_2
        have hw834_1 := hx834_1
        have hw834_0 := hx834_0
        obtain rfl : ad832 = ad834 := (by injection e834)
        replace hx834_0 := Z.up HB.out hx834_0
        replace hx834_1 := Z.up HB.out hx834_1
        replace hx834_2 := Z.up HB.out hx834_2
        replace p834 := eq_true p834
        replace q834 := eq_true q834
        obtain ⟨Ao25, co25, eo25⟩ := Kd.R_slice HO_7.out
        (subst eo25)
        refine start_ (n := 19) (S := fun w' => w'.cell? ⟨gb824, 0, none⟩ = some (.int .i64 a0_0) ∧ w'.cell? ⟨gb824, 1, none⟩ = some (.slice A0_1 l0_1.length c0_1) ∧ w'.cell? ⟨gb824, 2, none⟩ = some (.slice A0_2 l0_2.length c0_2) ∧ w'.cell? (ad832.add ((x8_2).toNat * 3)) = some (.int .i64 ((rd_T48 l2 x8_2).f0)) ∧ w'.cell? ⟨(ad832.add ((x8_2).toNat * 3)).block, (ad832.add ((x8_2).toNat * 3)).off + 1, none⟩ = some (.int .i64 ((rd_T48 l2 x8_2).f1)) ∧ w'.cell? ⟨(ad832.add ((x8_2).toNat * 3)).block, (ad832.add ((x8_2).toNat * 3)).off + 2, none⟩ = some (.int .i64 ((rd_T48 l2 x8_2).f2)) ∧ w'.cell? (ad832.add ((x8_2).toNat * 3)) = some (.int .i64 ((rd_T48 l2 x8_2).f0)) ∧ w'.cell? ⟨(ad832.add ((x8_2).toNat * 3)).block, (ad832.add ((x8_2).toNat * 3)).off + 1, none⟩ = some (.int .i64 ((rd_T48 l2 x8_2).f1)) ∧ w'.cell? ⟨(ad832.add ((x8_2).toNat * 3)).block, (ad832.add ((x8_2).toNat * 3)).off + 2, none⟩ = some (.int .i64 ((rd_T48 l2 x8_2).f2)) ∧ w'.cell? (ad832.add ((x8_2).toNat * 3)) = some (.int .i64 ((rd_T48 l2 x8_2).f0)) ∧ w'.cell? ⟨(ad832.add ((x8_2).toNat * 3)).block, (ad832.add ((x8_2).toNat * 3)).off + 1, none⟩ = some (.int .i64 ((rd_T48 l2 x8_2).f1)) ∧ w'.cell? ⟨(ad832.add ((x8_2).toNat * 3)).block, (ad832.add ((x8_2).toNat * 3)).off + 2, none⟩ = some (.int .i64 ((rd_T48 l2 x8_2).f2))) (ds := []) #[false, false, false, false, false, false, false, false, false, false, false, false, false, false, false, false, false, false, false] (by kernel_rfl) rfl rfl ⟨(blk_cell BK824.out 0).trans rfl, (blk_cell BK824.out 1).trans rfl, (blk_cell BK824.out 2).trans rfl, (Z.up HB.out hw832_0 :), (Z.up HB.out hw832_1 :), (Z.up HB.out hw832_2 :), (Z.up HB.out hw833_0 :), (Z.up HB.out hw833_1 :), (Z.up HB.out hw833_2 :), (Z.up HB.out hw834_0 :), (Z.up HB.out hw834_1 :), (Z.up HB.out hw834_2 :)⟩ (fun hHeld => ?_); refine with_tabW spec_FirstVoid.tab7 spec_FirstVoid.bits7 (fun HT_ HW_ => ?_)
        generalize wr.drew = w24 at HO_7 BK824 HB hx832_0 hx832_1 hx832_2 hx833_0 hx833_1 hx833_2 hx834_0 hx834_1 hx834_2 hHeld ⊢
        refine Z.pv 1 28 19 2 HT_.out ?_
        refine Z.pv 2 29 19 6 HT_.out ?_
        refine Z.pv 3 30 19 14 HT_.out ?_
        refine Z.pv 4 31 19 30 HT_.out ?_
        refine Z.pv 5 32 19 62 HT_.out ?_
        refine Z.pv 7 34 19 190 HT_.out ?_
        refine Z.pv 8 35 19 446 HT_.out ?_
        refine Z.pv 9 36 19 958 HT_.out ?_
        refine Z.pv 10 37 19 1982 HT_.out ?_
        refine Z.pv 12 39 19 6078 HT_.out ?_
        refine Z.pv 13 40 19 14270 HT_.out ?_
        refine Z.pv 14 41 19 30654 HT_.out ?_
        refine Z.pv 15 42 19 63422 HT_.out ?_
        refine Z.t12 0 27 19 63423 HT_.out HW_.out hHeld ?_
        refine Z.t12 6 33 19 63487 HT_.out HW_.out hHeld ?_
        refine Z.t12 11 38 19 65535 HT_.out HW_.out hHeld ?_
        refine Z.t12 16 43 19 131071 HT_.out HW_.out hHeld ?_
        refine one_ (i := 17) (N := some 44) (Z.mb 19 262143) rfl rfl (one_of HT_.out (by kernel_rfl)) (by decide) (fun K hK => ?_)
        refine goes_ Try.func79 (by kernel_rfl) rfl #[.agg #[.int .i64 a0_0, .slice A0_1 l0_1.length c0_1, .slice A0_2 l0_2.length c0_2], .slice Ao25 x7_2.length co25, .int .i64 ((rd_T48 l2 x8_2).f0), .int .i64 ((rd_T48 l2 x8_2).f1), .int .i64 ((rd_T48 l2 x8_2).f2)] (by rfl) rfl rfl Z.ar ?_
        with_reducible refine (spec_MayChange.calls k2 a0_0 _ _ l0_1 _ _ l0_2 _ _ x7_2 ((rd_T48 l2 x8_2).f0) ((rd_T48 l2 x8_2).f1) ((rd_T48 l2 x8_2).f2) true _ ?q1 ?q2 ?q3 ?q4 ?q5 ?q6 A19.out).mono ?_
        (case q1 => exact Z.cc HR0_1 HB)
        (case q2 => exact HC0_1.out)
        (case q3 => exact Z.cc HR0_2 HB)
        (case q4 => exact HC0_2.out)
        (case q5 => repeat (exact (Kd.R_reads' HO_7.out).2.2))
        (case q6 => exact (Kd.R_reads' HO_7.out).2.1)
        rintro e w26 ⟨rfl, hb⟩
        refine ⟨_, rfl, ?_⟩
        replace HO_7 := Z.k (Kd.R_below (by (with_reducible skip); exact HO_7.out) hb)
        replace BK824 := Z.bb BK824 hb
        replace HB := Z.st (Z.bs HB.out GE824.out) hb
        (try clear hb)
        refine hK.out _ _ ⟨(blk_cell BK824.out 0).trans rfl, (blk_cell BK824.out 1).trans rfl, (blk_cell BK824.out 2).trans rfl, (Z.up HB.out hw832_0 :), (Z.up HB.out hw832_1 :), (Z.up HB.out hw832_2 :), (Z.up HB.out hw833_0 :), (Z.up HB.out hw833_1 :), (Z.up HB.out hw833_2 :), (Z.up HB.out hw834_0 :), (Z.up HB.out hw834_1 :), (Z.up HB.out hw834_2 :)⟩ (fun hHeld => ?_)
        clear hK K
        refine Z.nm ?_
        refine Z.pv 18 45 19 524287 HT_.out ?_
        refine done_ (done_of HT_.out (by kernel_rfl)) ?_
        try go_wp2
        replace HO_7 := Z.k (Kd.R_drew HO_7.out)
        replace BK824 := Z.k (blk_drew BK824.out)
        replace HB := Z.k (below_drew1 HB.out)
        have p836 : 0 ≤ (x8_2 : Int) := Z.od
        have q836 : x8_2 < (l2.length : Int) := Z.od
        obtain ⟨ad836, e836, hx836_0, hx836_1, hx836_2⟩ := at_T48 HR2.out x8_2 p836 q836
        have hw836_2 := hx836_2
        have hw836_1 := hx836_1
        have hw836_0 := hx836_0
        obtain rfl : ad832 = ad836 := (by injection e836)
        replace hx836_0 := Z.up HB.out hx836_0
        replace hx836_1 := Z.up HB.out hx836_1
        replace hx836_2 := Z.up HB.out hx836_2
        replace p836 := eq_true p836
        replace q836 := eq_true q836
        have p837 : 0 ≤ (x8_2 : Int) := Z.od
        have q837 : x8_2 < (l2.length : Int) := Z.od
        obtain ⟨ad837, e837, hx837_0, hx837_1, hx837_2⟩ := at_T48 HR2.out x8_2 p837 q837
        have hw837_2 := hx837_2
        have hw837_1 := hx837_1
        have hw837_0 := hx837_0
        obtain rfl : ad832 = ad837 := (by injection e837)
        replace hx837_0 := Z.up HB.out hx837_0
        replace hx837_1 := Z.up HB.out hx837_1
        replace hx837_2 := Z.up HB.out hx837_2
        replace p837 := eq_true p837
        replace q837 := eq_true q837
        have p23 : 0 ≤ (((rd_T48 l2 x8_2).f0) : Int) := Z.od
        have q23 : (((rd_T48 l2 x8_2).f0) : Int) < ((x7_2.length : Int) : Int) := Z.od
        obtain ⟨go23, co23, eo23, gb23, gl23, cl23, HG23⟩ := Kd.R_form HO_7.out (by omega)
        (cases eo23)
        have GB23 := Z.k gb23
        have GG23 := Z.k HG23
        clear gb23 gl23 HG23
        obtain ⟨hx23_0, hf23_0⟩ := Kd.R_celln 0 HO_7.out (((rd_T48 l2 x8_2).f0) : Int) p23 q23
        replace p23 := eq_true p23
        replace q23 := eq_true q23
        have HP28 := Kd.R_putn HO_7.out (((rd_T48 l2 x8_2).f0) : Int) ((rd_T48 l2 x8_2).f1)
        rw [← Ny838.out] at HP28
        have HQ28 := Z.k HP28
        clear HP28
        refine start_ (n := 13) (S := fun w' => w'.cell? (ad832.add ((x8_2).toNat * 3)) = some (.int .i64 ((rd_T48 l2 x8_2).f0)) ∧ w'.cell? ⟨(ad832.add ((x8_2).toNat * 3)).block, (ad832.add ((x8_2).toNat * 3)).off + 1, none⟩ = some (.int .i64 ((rd_T48 l2 x8_2).f1)) ∧ w'.cell? ⟨(ad832.add ((x8_2).toNat * 3)).block, (ad832.add ((x8_2).toNat * 3)).off + 2, none⟩ = some (.int .i64 ((rd_T48 l2 x8_2).f2)) ∧ w'.cell? (ad832.add ((x8_2).toNat * 3)) = some (.int .i64 ((rd_T48 l2 x8_2).f0)) ∧ w'.cell? ⟨(ad832.add ((x8_2).toNat * 3)).block, (ad832.add ((x8_2).toNat * 3)).off + 1, none⟩ = some (.int .i64 ((rd_T48 l2 x8_2).f1)) ∧ w'.cell? ⟨(ad832.add ((x8_2).toNat * 3)).block, (ad832.add ((x8_2).toNat * 3)).off + 2, none⟩ = some (.int .i64 ((rd_T48 l2 x8_2).f2))) (ds := [12]) #[false, false, false, false, false, false, false, false, false, false, false, false, false] (by kernel_rfl) rfl rfl ⟨(Z.up HB.out hw836_0 :), (Z.up HB.out hw836_1 :), (Z.up HB.out hw836_2 :), (Z.up HB.out hw837_0 :), (Z.up HB.out hw837_1 :), (Z.up HB.out hw837_2 :)⟩ (fun hHeld => ?_); refine with_tabW spec_FirstVoid.tab9 spec_FirstVoid.bits9 (fun HT_ HW_ => ?_)
        generalize w26.drew = w27 at HO_7 BK824 HB GG23 HQ28 hf23_0 hx23_0 hx836_0 hx836_1 hx836_2 hx837_0 hx837_1 hx837_2 hHeld ⊢
        refine Z.pv 0 47 13 1 HT_.out ?_
        refine Z.pv 1 48 13 3 HT_.out ?_
        refine Z.pv 2 49 13 7 HT_.out ?_
        refine Z.pv 3 50 13 15 HT_.out ?_
        refine Z.pv 4 51 13 31 HT_.out ?_
        refine Z.pv 6 53 13 95 HT_.out ?_
        refine Z.pv 7 54 13 223 HT_.out ?_
        refine Z.pv 8 55 13 479 HT_.out ?_
        refine Z.pv 9 56 13 991 HT_.out ?_
        refine Z.t6 5 52 13 1023 HT_.out HW_.out hHeld ?_
        refine Z.t6 10 57 13 2047 HT_.out HW_.out hHeld ?_
        refine Z.pv 11 58 13 4095 HT_.out ?_
        refine last_ (i := 12) (N := none) #[true, true, true, true, true, true, true, true, true, true, true, true, true] rfl rfl (one_of HT_.out (by kernel_rfl)) (by decide) (fun K hK => ?_)
        refine skip_ (w1 := ?_) (by rfl) rfl ?_ ?_
        rotate_left
        ·go_simp
         rfl
        refine hK.out _ _ ?_
        clear hK K
        refine done_ (done_of HT_.out (by kernel_rfl)) ?_
        try go_wp2
        go_roundg k2
        case measure => have := HJ3.out; have := HK2.out; omega
        case rel => exact ⟨(y838), (wrap64 (x8_2 + 1)), (by rfl), H', ⟨by have := HJ3.out; have := HK2.out; omega⟩, ⟨by (with_reducible skip); exact HQ28.out⟩, ⟨by (with_reducible skip); refine blk_far ?_ (by have h_ := Kd.R_ne HO_7.out BK824.out (by decide); intro e_; exact h_ (by rw [e_]; rfl)) _; (with_reducible skip); exact BK824.out⟩, ⟨by repeat ((with_reducible first | exact HB.out | refine below_set ?_ GB23.out))⟩⟩
       ·replace c20 := Bool.eq_false_iff.mpr c20
        subst c20
        rw [if_neg (show ¬ (false = true) by decide)] at H
        obtain rfl := Option.some.inj H
        try go_wp2
        replace HO_7 := Z.k (Kd.R_drew HO_7.out)
        replace BK824 := Z.k (blk_drew BK824.out)
        replace HB := Z.k (below_drew1 HB.out)
        have p832 : 0 ≤ (x8_2 : Int) := Z.od
        have q832 : x8_2 < (l2.length : Int) := Z.od
        obtain ⟨ad832, rfl, hx832_0, hx832_1, hx832_2⟩ := at_T48 HR2.out x8_2 p832 q832
        have hw832_2 := hx832_2
        have hw832_1 := hx832_1
        have hw832_0 := hx832_0
        replace hx832_0 := Z.up HB.out hx832_0
        replace hx832_1 := Z.up HB.out hx832_1
        replace hx832_2 := Z.up HB.out hx832_2
        replace p832 := eq_true p832
        replace q832 := eq_true q832
        have p833 : 0 ≤ (x8_2 : Int) := Z.od
        have q833 : x8_2 < (l2.length : Int) := Z.od
        obtain ⟨ad833, e833, hx833_0, hx833_1, hx833_2⟩ := at_T48 HR2.out x8_2 p833 q833
        have hw833_2 := hx833_2
        have hw833_1 := hx833_1
        have hw833_0 := hx833_0
        obtain rfl : ad832 = ad833 := (by injection e833)
        replace hx833_0 := Z.up HB.out hx833_0
        replace hx833_1 := Z.up HB.out hx833_1
        replace hx833_2 := Z.up HB.out hx833_2
        replace p833 := eq_true p833
        replace q833 := eq_true q833
        have p834 : 0 ≤ (x8_2 : Int) := Z.od
        have q834 : x8_2 < (l2.length : Int) := Z.od
        obtain ⟨ad834, e834, hx834_0, hx834_1, hx834_2⟩ := at_T48 HR2.out x8_2 p834 q834
        have hw834_2 := hx834_2
        have hw834_1 := hx834_1
        have hw834_0 := hx834_0
        obtain rfl : ad832 = ad834 := (by injection e834)
        replace hx834_0 := Z.up HB.out hx834_0
        replace hx834_1 := Z.up HB.out hx834_1
        replace hx834_2 := Z.up HB.out hx834_2
        replace p834 := eq_true p834
        replace q834 := eq_true q834
        obtain ⟨Ao30, co30, eo30⟩ := Kd.R_slice HO_7.out
        (subst eo30)
        refine start_ (n := 19) (S := fun w' => w'.cell? ⟨gb824, 0, none⟩ = some (.int .i64 a0_0) ∧ w'.cell? ⟨gb824, 1, none⟩ = some (.slice A0_1 l0_1.length c0_1) ∧ w'.cell? ⟨gb824, 2, none⟩ = some (.slice A0_2 l0_2.length c0_2) ∧ w'.cell? (ad832.add ((x8_2).toNat * 3)) = some (.int .i64 ((rd_T48 l2 x8_2).f0)) ∧ w'.cell? ⟨(ad832.add ((x8_2).toNat * 3)).block, (ad832.add ((x8_2).toNat * 3)).off + 1, none⟩ = some (.int .i64 ((rd_T48 l2 x8_2).f1)) ∧ w'.cell? ⟨(ad832.add ((x8_2).toNat * 3)).block, (ad832.add ((x8_2).toNat * 3)).off + 2, none⟩ = some (.int .i64 ((rd_T48 l2 x8_2).f2)) ∧ w'.cell? (ad832.add ((x8_2).toNat * 3)) = some (.int .i64 ((rd_T48 l2 x8_2).f0)) ∧ w'.cell? ⟨(ad832.add ((x8_2).toNat * 3)).block, (ad832.add ((x8_2).toNat * 3)).off + 1, none⟩ = some (.int .i64 ((rd_T48 l2 x8_2).f1)) ∧ w'.cell? ⟨(ad832.add ((x8_2).toNat * 3)).block, (ad832.add ((x8_2).toNat * 3)).off + 2, none⟩ = some (.int .i64 ((rd_T48 l2 x8_2).f2)) ∧ w'.cell? (ad832.add ((x8_2).toNat * 3)) = some (.int .i64 ((rd_T48 l2 x8_2).f0)) ∧ w'.cell? ⟨(ad832.add ((x8_2).toNat * 3)).block, (ad832.add ((x8_2).toNat * 3)).off + 1, none⟩ = some (.int .i64 ((rd_T48 l2 x8_2).f1)) ∧ w'.cell? ⟨(ad832.add ((x8_2).toNat * 3)).block, (ad832.add ((x8_2).toNat * 3)).off + 2, none⟩ = some (.int .i64 ((rd_T48 l2 x8_2).f2))) (ds := []) #[false, false, false, false, false, false, false, false, false, false, false, false, false, false, false, false, false, false, false] (by kernel_rfl) rfl rfl ⟨(blk_cell BK824.out 0).trans rfl, (blk_cell BK824.out 1).trans rfl, (blk_cell BK824.out 2).trans rfl, (Z.up HB.out hw832_0 :), (Z.up HB.out hw832_1 :), (Z.up HB.out hw832_2 :), (Z.up HB.out hw833_0 :), (Z.up HB.out hw833_1 :), (Z.up HB.out hw833_2 :), (Z.up HB.out hw834_0 :), (Z.up HB.out hw834_1 :), (Z.up HB.out hw834_2 :)⟩ (fun hHeld => ?_); refine with_tabW spec_FirstVoid.tab7 spec_FirstVoid.bits7 (fun HT_ HW_ => ?_)
        generalize wr.drew = w29 at HO_7 BK824 HB hx832_0 hx832_1 hx832_2 hx833_0 hx833_1 hx833_2 hx834_0 hx834_1 hx834_2 hHeld ⊢
        refine Z.pv 1 28 19 2 HT_.out ?_
        refine Z.pv 2 29 19 6 HT_.out ?_
        refine Z.pv 3 30 19 14 HT_.out ?_
        refine Z.pv 4 31 19 30 HT_.out ?_
        refine Z.pv 5 32 19 62 HT_.out ?_
        refine Z.pv 7 34 19 190 HT_.out ?_
        refine Z.pv 8 35 19 446 HT_.out ?_
        refine Z.pv 9 36 19 958 HT_.out ?_
        refine Z.pv 10 37 19 1982 HT_.out ?_
        refine Z.pv 12 39 19 6078 HT_.out ?_
        refine Z.pv 13 40 19 14270 HT_.out ?_
        refine Z.pv 14 41 19 30654 HT_.out ?_
        refine Z.pv 15 42 19 63422 HT_.out ?_
        refine Z.t12 0 27 19 63423 HT_.out HW_.out hHeld ?_
        refine Z.t12 6 33 19 63487 HT_.out HW_.out hHeld ?_
        refine Z.t12 11 38 19 65535 HT_.out HW_.out hHeld ?_
        refine Z.t12 16 43 19 131071 HT_.out HW_.out hHeld ?_
        refine one_ (i := 17) (N := some 44) (Z.mb 19 262143) rfl rfl (one_of HT_.out (by kernel_rfl)) (by decide) (fun K hK => ?_)
        refine goes_ Try.func79 (by kernel_rfl) rfl #[.agg #[.int .i64 a0_0, .slice A0_1 l0_1.length c0_1, .slice A0_2 l0_2.length c0_2], .slice Ao30 x7_2.length co30, .int .i64 ((rd_T48 l2 x8_2).f0), .int .i64 ((rd_T48 l2 x8_2).f1), .int .i64 ((rd_T48 l2 x8_2).f2)] (by rfl) rfl rfl Z.ar ?_
        with_reducible refine (spec_MayChange.calls k2 a0_0 _ _ l0_1 _ _ l0_2 _ _ x7_2 ((rd_T48 l2 x8_2).f0) ((rd_T48 l2 x8_2).f1) ((rd_T48 l2 x8_2).f2) false _ ?q1 ?q2 ?q3 ?q4 ?q5 ?q6 A19.out).mono ?_
        (case q1 => exact Z.cc HR0_1 HB)
        (case q2 => exact HC0_1.out)
        (case q3 => exact Z.cc HR0_2 HB)
        (case q4 => exact HC0_2.out)
        (case q5 => repeat (exact (Kd.R_reads' HO_7.out).2.2))
        (case q6 => exact (Kd.R_reads' HO_7.out).2.1)
        rintro e w31 ⟨rfl, hb⟩
        refine ⟨_, rfl, ?_⟩
        replace HO_7 := Z.k (Kd.R_below (by (with_reducible skip); exact HO_7.out) hb)
        replace BK824 := Z.bb BK824 hb
        replace HB := Z.st (Z.bs HB.out GE824.out) hb
        (try clear hb)
        refine hK.out _ _ ⟨(blk_cell BK824.out 0).trans rfl, (blk_cell BK824.out 1).trans rfl, (blk_cell BK824.out 2).trans rfl, (Z.up HB.out hw832_0 :), (Z.up HB.out hw832_1 :), (Z.up HB.out hw832_2 :), (Z.up HB.out hw833_0 :), (Z.up HB.out hw833_1 :), (Z.up HB.out hw833_2 :), (Z.up HB.out hw834_0 :), (Z.up HB.out hw834_1 :), (Z.up HB.out hw834_2 :)⟩ (fun hHeld => ?_)
        clear hK K
        refine Z.nm ?_
        refine Z.pv 18 45 19 524287 HT_.out ?_
        refine done_ (done_of HT_.out (by kernel_rfl)) ?_
        try go_wp2
        go_ret
        exact ⟨by rfl, Z.bs HB.out GE824.out⟩
      ·rw [if_neg c17] at H
       have c17b0 := decide_eq_false c17
       clear c17
       obtain rfl := Option.some.inj H
       go_wp2
       go_ret
       exact ⟨by rfl, Z.bs HB.out GE824.out⟩

/-! ### slices_Equal_int_int: function 80 -/
def slices_Equal_int_int.l0 : Nat → List Int → List Int → Int → Int → Option (Bool)
 | 0, _, _, _, _ => none
 | k + 1, x0, x1, x12, x13 => if x13 < x12 then (if 0 ≤ x13 then (if x13 < (x0.length : Int) then (if x13 < (x1.length : Int) then (if (rd x0 x13) = (rd x1 x13) then (slices_Equal_int_int.l0 k x0 x1 x12 (wrap64 (x13 + 1))) else (some false)) else (none)) else (none)) else (none)) else (some true)
def slices_Equal_int_int.f (k : Nat) (l0 : List Int) (l1 : List Int) : Option (Bool) := if (l0.length : Int) = (l1.length : Int) then (slices_Equal_int_int.l0 k l0 l1 (l0.length : Int) 0) else (some false)
set_option maxHeartbeats 8000000 in
set_option maxRecDepth 100000 in
theorem slices_Equal_int_int.calls (k : Nat) (A0 : Option Addr) (c0 : Nat) (l0 : List Int) (A1 : Option Addr) (c1 : Nat) (l1 : List Int) (r : Bool) (w : World) (hr0 : Kd.C (Kd.int .i64) w A0 l0.length l0) (hc0 : l0.length ≤ c0) (hr1 : Kd.C (Kd.int .i64) w A1 l1.length l1) (hc1 : l1.length ≤ c1) (h : slices_Equal_int_int.f k l0 l1 = some r) :
  Calls Try.prog 80 #[.slice A0 l0.length c0, .slice A1 l1.length c1] w fun e w' => e = .returned (.bool r) ∧ Drawn0 w w' := by
 have HR0 := Z.k hr0
 have HC0 := Z.k hc0
 clear hr0 hc0
 have HR1 := Z.k hr1
 have HC1 := Z.k hc1
 clear hr1 hc1
 have H := h
 clear h
 unfold slices_Equal_int_int.f at H
 by_cases c3 : (l0.length : Int) = (l1.length : Int)
 ·rw [if_pos c3] at H
  have c3b0 : ((l0.length : Int) == (l1.length : Int)) = true := beq_iff_eq.mpr c3
  have c3b1 : ((l0.length : Int) != (l1.length : Int)) = false := bne_eq_false_iff_eq.mpr c3
  have c3b2 : (l0.length == l1.length) = true := by (simp at c3 ⊢; omega)
  clear c3
  have H' := Z.k H
  clear H
  go_enter Try.func80, Try.ntmps80
  go_wp2
  go_loopg [13] k (fun kq v13 w' => ∃ (x13_1 : Int), v13 = .int .i64 x13_1 ∧ Aside0 (slices_Equal_int_int.l0 kq l0 l1 (l0.length : Int) x13_1 = some r) ∧ Aside0 (kq ≤ k) ∧ Drawn0 w w')
  case atStart => exact ⟨(0), (by rfl), H', ⟨Nat.le_refl _⟩, by repeat (exact Drawn0.refl _)⟩
  case round =>
   clear H'
   try clear c3b0
   try clear c3b1
   try clear c3b2
   obtain ⟨x13_1, rfl, HA, HK1, ⟨m1, rfl⟩⟩ := hrel
   cases gk with
   | zero => exact absurd HA.out (by simp [slices_Equal_int_int.l0])
   | succ k1 =>
    have H := HA.out
    clear HA
    simp only [slices_Equal_int_int.l0] at H
    by_cases c4 : x13_1 < (l0.length : Int)
    ·rw [if_pos c4] at H
     have c4b0 := decide_eq_true c4
     clear c4
     obtain ⟨c5, H⟩ := Z.ifp H
     have c5b0 : decide (0 ≤ x13_1) = true := decide_eq_true c5
     clear c5
     obtain ⟨c6, H⟩ := Z.ifp H
     have c6b0 : decide (x13_1 < (l0.length : Int)) = true := decide_eq_true c6
     clear c6
     obtain ⟨c7, H⟩ := Z.ifp H
     have c7b0 : decide (x13_1 < (l1.length : Int)) = true := decide_eq_true c7
     clear c7
     by_cases c8 : (rd l0 x13_1) = (rd l1 x13_1)
     ·rw [if_pos c8] at H
      have c8b0 : ((rd l0 x13_1) == (rd l1 x13_1)) = true := beq_iff_eq.mpr c8
      have c8b1 : ((rd l0 x13_1) != (rd l1 x13_1)) = false := bne_eq_false_iff_eq.mpr c8
      clear c8
      have H' := Z.k H
      clear H
      have p903 : 0 ≤ (x13_1 : Int) := Z.od
      have q903 : x13_1 < (l0.length : Int) := Z.od
      obtain ⟨ad903, rfl, hx903_0⟩ := Kd.at_int HR0.out x13_1 p903 q903
      replace p903 := eq_true p903
      replace q903 := eq_true q903
      have p904 : 0 ≤ (x13_1 : Int) := Z.od
      have q904 : x13_1 < (l1.length : Int) := Z.od
      obtain ⟨ad904, rfl, hx904_0⟩ := Kd.at_int HR1.out x13_1 p904 q904
      replace p904 := eq_true p904
      replace q904 := eq_true q904
      go_wp2
      repeat (go_quiet (fail); try go_wp2)
      go_roundg k1
      case measure => have := HK1.out; omega
      case rel => exact ⟨(wrap64 (x13_1 + 1)), (by rfl), H', ⟨by have := HK1.out; omega⟩, by repeat (first | exact Drawn0.refl _ | apply Drawn0.step)⟩
     ·rw [if_neg c8] at H
      have c8b0 : ((rd l0 x13_1) == (rd l1 x13_1)) = false := beq_eq_false_iff_ne.mpr c8
      have c8b1 : ((rd l0 x13_1) != (rd l1 x13_1)) = true := bne_iff_ne.mpr c8
      obtain rfl := Option.some.inj H
      have p903 : 0 ≤ (x13_1 : Int) := Z.od
      have q903 : x13_1 < (l0.length : Int) := Z.od
      obtain ⟨ad903, rfl, hx903_0⟩ := Kd.at_int HR0.out x13_1 p903 q903
      replace p903 := eq_true p903
      replace q903 := eq_true q903
      have p904 : 0 ≤ (x13_1 : Int) := Z.od
      have q904 : x13_1 < (l1.length : Int) := Z.od
      obtain ⟨ad904, rfl, hx904_0⟩ := Kd.at_int HR1.out x13_1 p904 q904
      replace p904 := eq_true p904
      replace q904 := eq_true q904
      go_wp2
      repeat (go_quiet (fail); try go_wp2)
      go_ret
      exact ⟨by rfl, by repeat (first | exact Drawn0.refl _ | apply Drawn0.step)⟩
    ·rw [if_neg c4] at H
     have c4b0 := decide_eq_false c4
     clear c4
     obtain rfl := Option.some.inj H
     go_wp2
     go_ret
     exact ⟨by rfl, by repeat (first | exact Drawn0.refl _ | apply Drawn0.step)⟩
 ·rw [if_neg c3] at H
  have c3b0 : ((l0.length : Int) == (l1.length : Int)) = false := beq_eq_false_iff_ne.mpr c3
  have c3b1 : ((l0.length : Int) != (l1.length : Int)) = true := bne_iff_ne.mpr c3
  have c3b2 : (l0.length == l1.length) = false := by (simp at c3 ⊢; omega)
  obtain rfl := Option.some.inj H
  go_enter Try.func80, Try.ntmps80
  go_wp2
  go_ret
  exact ⟨by rfl, by repeat (exact Drawn0.refl _)⟩

end Go.Proofs.Ytojoblllgddckaa.PAll

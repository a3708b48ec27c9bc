/- Walks of functions that laws of this seat reach, in the form of the print. -/
import Derived.Test.YtojoblllgddckaaCAll0
import Derived.Test.YtojoblllgddckaaCAll1
import Derived.Test.YtojoblllgddckaaCAll3
import Derived.Test.YtojoblllgddckaaCAll17
import Derived.Test.YtojoblllgddckaaCAll18
import Derived.Test.YtojoblllgddckaaCAll21
import Derived.Test.YtojoblllgddckaaZ
-- PRINTED
namespace Go.Proofs.Ytojoblllgddckaa.PAll
open Go.RowKit Go.Proofs.YtojoblllgddckaaW.PrintWords Go.Proofs.YtojoblllgddckaaW.PrintLast Go.Proofs.YtojoblllgddckaaW.PrintMore
attribute [local go_sem] max2_int min2_int max_two min_two max_three min_three max_four min_four
set_option linter.unusedVariables false
set_option linter.unusedSimpArgs false

/-! ### impl_AfterActs: function 30 -/
mutual
def impl_AfterActs.j0 : Nat → List Int → List (S48) → Bool → Int → List Int → List (List (S91)) → Option (List Int × Int)
 | 0, _, _, _, _, _, _ => none
 | k + 1, x1, x2, x20, x653000, x653001, x653002 => if x20 = true then (some (([] : List Int), (-1))) else ((some (([] : List Int) : List Int)).bind fun y654 => (if y654.length + x1.length < 17592186044416 then (impl_AfterActs.l0 k (y654 ++ x1) 0 x2 (x2.length : Int) 0 x653000 x653001 x653002) else (none)))
def impl_AfterActs.l0 : Nat → List Int → Int → List (S48) → Int → Int → Int → List Int → List (List (S91)) → Option (List Int × Int)
 | 0, _, _, _, _, _, _, _, _ => none
 | k + 1, x8, x9, x24, x25, x26, x653000, x653001, x653002 => if x26 < x25 then (if 0 ≤ x26 then (if x26 < (x24.length : Int) then ((impl_mayAct.f k x653000 x653001 x653002 x8 ((rd_T48 x24 x26).f0) ((rd_T48 x24 x26).f1) ((rd_T48 x24 x26).f2)).bind fun t662 => (if t662 = true then (if 0 ≤ ((rd_T48 x24 x26).f0) then (if ((rd_T48 x24 x26).f0) < (x8.length : Int) then (impl_AfterActs.l0 k (x8.set (((rd_T48 x24 x26).f0) : Int).toNat ((rd_T48 x24 x26).f1)) (wrap64 (x9 + 1)) x24 x25 (wrap64 (x26 + 1)) x653000 x653001 x653002) else (none)) else (none)) else (impl_AfterActs.l0 k x8 x9 x24 x25 (wrap64 (x26 + 1)) x653000 x653001 x653002))) else (none)) else (none)) else (some (x8, x9))
end
def impl_AfterActs.f (k : Nat) (a0_0 : Int) (l0_1 : List Int) (l0_2 : List (List (S91))) (l1 : List Int) (l2 : List (S48)) : Option (List Int × Int) := (impl_isState.f k a0_0 l0_1 l0_2 l1).bind fun t653 => (if t653 = true then (impl_AfterActs.j0 k l1 l2 (decide ((l2.length : Int) > 12)) a0_0 l0_1 l0_2) else (impl_AfterActs.j0 k l1 l2 true a0_0 l0_1 l0_2))
set_option maxHeartbeats 8000000 in
set_option maxRecDepth 100000 in
theorem impl_AfterActs.calls (k : Nat) (a0_0 : Int) (A0_1 : Option Addr) (c0_1 : Nat) (l0_1 : List Int) (A0_2 : Option Addr) (c0_2 : Nat) (l0_2 : List (List (S91))) (A1 : Option Addr) (c1 : Nat) (l1 : List Int) (A2 : Option Addr) (c2 : Nat) (l2 : List (S48)) (r1 : List Int) (r2 : Int) (w : World) (hr0_1 : Kd.C (Kd.int .i64) w A0_1 l0_1.length l0_1) (hc0_1 : l0_1.length ≤ c0_1) (hr0_2 : Kd.C (Kd.slice 91 k91) w A0_2 l0_2.length l0_2) (hc0_2 : l0_2.length ≤ c0_2) (hr1 : Kd.C (Kd.int .i64) w A1 l1.length l1) (hc1 : l1.length ≤ c1) (hr2 : Kd.C k48 w A2 l2.length l2) (hc2 : l2.length ≤ c2) (h : impl_AfterActs.f k a0_0 l0_1 l0_2 l1 l2 = some (r1, r2)) :
  Calls Try.prog 30 #[.agg #[.int .i64 a0_0, .slice A0_1 l0_1.length c0_1, .slice A0_2 l0_2.length c0_2], .slice A1 l1.length c1, .slice A2 l2.length c2] w fun e w' => ∃ v0_ : Value, e = .returned (.tuple #[v0_, .int .i64 r2]) ∧ Kd.R (Kd.int .i64) 3 w' w.heap.size (fun _ => True) v0_ r1 ∧ Below w.heap.size w w' := by
 have hu46 := Try.underlying46
 have hu48 := Try.underlying48
 have HR0_1 := Z.k hr0_1
 have HC0_1 := Z.k hc0_1
 clear hr0_1 hc0_1
 have HR0_2 := Z.k hr0_2
 have HC0_2 := Z.k hc0_2
 clear hr0_2 hc0_2
 have HR1 := Z.k hr1
 have HC1 := Z.k hc1
 clear hr1 hc1
 have HR2 := Z.k hr2
 have HC2 := Z.k hc2
 clear hr2 hc2
 have HB := Z.k (Below.refl w.heap.size w)
 have H := h
 clear h
 unfold impl_AfterActs.f at H
 have HC4 := Z.k H
 clear H
 go_enter Try.func30, Try.ntmps30
 go_upto_region 1 with (((with_reducible refine gate_dst (N := 3) rfl ?_); (try (refine gate_guard (by rfl) ?_; dsimp only)); refine Z.bx #[.int .i64 a0_0, .slice A0_1 l0_1.length c0_1, .slice A0_2 l0_2.length c0_2] 46 HB ?_; clear HB; intro gb652 w5 BK652 GE652 HB hg hb; have GW652 := GE652; clear hb hg))
 go_cut [20] (fun v20 wc => ∃ (kq : Nat) (x20_3 : Bool), v20 = .bool x20_3 ∧ Aside0 (impl_AfterActs.j0 kq l1 l2 x20_3 a0_0 l0_1 l0_2 = some (r1, r2)) ∧ Aside0 (kq ≤ k) ∧ Aside0 (wc.heap[gb652]? = some (.cells #[.int .i64 a0_0, (.slice A0_1 l0_1.length c0_1), (.slice A0_2 l0_2.length c0_2)] 46 (0, 0))) ∧ Aside0 (Below w.heap.size w wc))
 case first =>
  have H := HC4.out
  clear HC4
  replace H := Option.bind_eq_some_iff.mp H
  obtain ⟨t653, A60, H⟩ := H
  have A6 := Z.k A60
  clear A60
  by_cases c7 : t653 = true
  ·subst c7
   rw [if_pos rfl] at H
   have H' := Z.k H
   clear H
   have hcz8 := Z.c3 BK652.out
   go_wp2_with (((with_reducible refine gate_callee (f := 73) rfl ?_); refine goesL_ (some 14) rfl rfl Try.func73 (by kernel_rfl) rfl #[.agg #[.int .i64 a0_0, .slice A0_1 l0_1.length c0_1, .slice A0_2 l0_2.length c0_2], .slice A1 l1.length c1] rfl Z.ar ?_; (with_reducible refine (impl_isState.calls k a0_0 _ _ l0_1 _ _ l0_2 _ _ l1 true _ ?q1 ?q2 ?q3 ?q4 ?q5 ?q6 A6.out).mono ?_); (case q1 => exact Z.cc HR0_1 HB); (case q2 => exact HC0_1.out); (case q3 => exact Z.cc HR0_2 HB); (case q4 => exact HC0_2.out); (case q5 => exact Z.cc HR1 HB); (case q6 => exact HC1.out); rintro e w9 ⟨rfl, hb⟩; refine ⟨_, rfl, ?_⟩; replace BK652 := Z.bb BK652 hb; replace HB := Z.st (Z.bs HB.out GE652.out) hb; (try clear hb)))
   go_meet
   case rel => exact ⟨_, (decide ((l2.length : Int) > 12)), (by rfl), H', ⟨by omega⟩, ⟨by exact BK652.out⟩, ⟨Z.bs HB.out GE652.out⟩⟩
  ·replace c7 := Bool.eq_false_iff.mpr c7
   subst c7
   rw [if_neg (show ¬ (false = true) by decide)] at H
   have H' := Z.k H
   clear H
   have hcz10 := Z.c3 BK652.out
   go_wp2_with (((with_reducible refine gate_callee (f := 73) rfl ?_); refine goesL_ (some 14) rfl rfl Try.func73 (by kernel_rfl) rfl #[.agg #[.int .i64 a0_0, .slice A0_1 l0_1.length c0_1, .slice A0_2 l0_2.length c0_2], .slice A1 l1.length c1] rfl Z.ar ?_; (with_reducible refine (impl_isState.calls k a0_0 _ _ l0_1 _ _ l0_2 _ _ l1 false _ ?q1 ?q2 ?q3 ?q4 ?q5 ?q6 A6.out).mono ?_); (case q1 => exact Z.cc HR0_1 HB); (case q2 => exact HC0_1.out); (case q3 => exact Z.cc HR0_2 HB); (case q4 => exact HC0_2.out); (case q5 => exact Z.cc HR1 HB); (case q6 => exact HC1.out); rintro e w11 ⟨rfl, hb⟩; refine ⟨_, rfl, ?_⟩; replace BK652 := Z.bb BK652 hb; replace HB := Z.st (Z.bs HB.out GE652.out) hb; (try clear hb)))
   go_meet
   case rel => exact ⟨_, (true), (by rfl), H', ⟨by omega⟩, ⟨by exact BK652.out⟩, ⟨Z.bs HB.out GE652.out⟩⟩
 case rest =>
  clear HC4
  obtain ⟨kq, x20_3, rfl, HA, HJ3, BK652, HB⟩ := hcut
  cases kq with
  | zero => exact absurd HA.out (by simp [impl_AfterActs.j0])
  | succ kj3 =>
   have H := HA.out
   clear HA
   simp only [impl_AfterActs.j0] at H
   by_cases c12 : x20_3 = true
   ·subst c12
    rw [if_pos rfl] at H
    simp only [Option.some.injEq, Prod.mk.injEq] at H
    obtain ⟨rfl, rfl⟩ := H
    go_wp2
    go_ret2
    exact ⟨_, by rfl, by exact Kd.R_nil _ _ _ _ _, Z.bs HB.out GE652.out⟩
   ·replace c12 := Bool.eq_false_iff.mpr c12
    subst c12
    rw [if_neg (show ¬ (false = true) by decide)] at H
    obtain ⟨y654, hy654⟩ : ∃ y_ : List Int, y_ = (([] : List Int)) := ⟨_, rfl⟩
    replace H : (if y654.length + l1.length < 17592186044416 then (impl_AfterActs.l0 kj3 (y654 ++ l1) 0 l2 (l2.length : Int) 0 a0_0 l0_1 l0_2) else (none)) = some (r1, r2) := by (have H2_ := (Option.bind_some _ _).symm.trans H; rw [hy654]; with_reducible exact H2_)
    have Ny654 := Z.k hy654
    clear hy654
    obtain ⟨c13, H⟩ := Z.ifp H
    have LMc13 := Z.k c13
    clear c13
    obtain ⟨y657, hy657⟩ : ∃ y_ : List Int, y_ = (y654 ++ l1) := ⟨_, rfl⟩
    replace H : (impl_AfterActs.l0 kj3 y657 0 l2 (l2.length : Int) 0 a0_0 l0_1 l0_2) = some (r1, r2) := by (rw [hy657]; with_reducible exact H)
    have Ny657 := Z.k hy657
    clear hy657
    have H' := Z.k H
    clear H
    go_wp2_with (first | ((with_reducible refine gate_dst (N := 21) rfl ?_); (try (refine gate_guard (by rfl) ?_; dsimp only)); refine Kd.R_lit (Kd.int .i64) _ 3 ?hg (N := 21) ?hd (xs := ([] : List Int)) (inner := []) (ok := fun _ => True) (okp := fun _ => True) ?hr ?hp (fun _ hk => hk) trivial (Below.refl _ _) (Nat.le_refl _) (by simp) ?_; (case hd | hg => rfl); (case hr => (go_simp; done)); (case hp => exact (Reps.none _ _)); intro v655 w14 ho15 hb hg_ hnew_; clear hg_ hnew_; (rw [← Ny654.out] at ho15); have HO656 := Z.k (Kd.R_lower ho15 (below_size (Z.bs HB.out GE652.out))); replace BK652 := Z.bb BK652 hb; replace HB := Z.st (Z.bs HB.out GE652.out) hb; clear hb ho15) | ((with_reducible refine gate_builtin (b := .append) (xs := #[.tmp 21, .tmp 22]) rfl ?_); (try (refine gate_guard (by rfl) ?_; dsimp only)); at_builtin; refine Kd.R_append_rows (Kd.int .i64) (w0 := w) w.heap.size rfl (.tmp 21) (.tmp 22) 23 3 (.int .i64 0) 8 rfl Try.underlying23 info3 rfl (by decide) (by omega) v655 y654 l1 _ _ _ (fun _ => True) (fun _ => False) rfl rfl ?aO ?aR (fun _ _ h => h) (fun _ h => h.elim) ?aF ?aB ?aS ?aL ?_; (case aR => exact Z.cc HR1 HB); (case aB => exact (Z.bs HB.out GE652.out)); (case aF => exact (fun _ _ => trivial)); (case aO => exact HO656.out); (case aS => exact (below_size (Z.bs HB.out GE652.out))); (case aL => have := LMc13.out; omega); intro v658 w16 ho hb hg hat; rw [← Ny657.out] at ho; replace BK652 := Z.k (blk_grown (g := gb652) (o := .cells #[.int .i64 a0_0, .slice A0_1 l0_1.length c0_1, .slice A0_2 l0_2.length c0_2] 46 (0, 0)) (Z.bk BK652.out) hg (Kd.R_ne HO656.out BK652.out (by decide))); replace HB := Z.k hb; have HO659 := Z.k ho; clear HO656; clear ho hb hg hat))
    go_loopg [9, 26] kj3 (fun kq v9 v26 w' => ∃ (x8_2 : List Int) (x9_2 : Int) (x26_2 : Int), v9 = .int .i64 x9_2 ∧ v26 = .int .i64 x26_2 ∧ Aside0 (impl_AfterActs.l0 kq x8_2 x9_2 l2 (l2.length : Int) x26_2 a0_0 l0_1 l0_2 = some (r1, r2)) ∧ Aside0 (kq ≤ kj3) ∧ Aside0 (Kd.R (Kd.int .i64) 3 w' w.heap.size (fun _ => True) v658 x8_2) ∧ Aside0 (w'.heap[gb652]? = some (.cells #[.int .i64 a0_0, (.slice A0_1 l0_1.length c0_1), (.slice A0_2 l0_2.length c0_2)] 46 (0, 0))) ∧ Aside0 (Below w.heap.size w w'))
    case atStart => exact ⟨(y657), (0), (0), (by rfl), (by rfl), H', ⟨Nat.le_refl _⟩, ⟨by exact HO659.out⟩, ⟨by exact BK652.out⟩, ⟨Z.bs HB.out GE652.out⟩⟩
    case round =>
     clear H'
     obtain ⟨x8_2, x9_2, x26_2, rfl, rfl, HA, HK2, HO_8, BK652, HB⟩ := hrel
     cases gk with
     | zero => exact absurd HA.out (by simp [impl_AfterActs.l0])
     | succ k2 =>
      have H := HA.out
      clear HA
      simp only [impl_AfterActs.l0] at H
      by_cases c17 : x26_2 < (l2.length : Int)
      ·rw [if_pos c17] at H
       have c17b0 := decide_eq_true c17
       clear c17
       obtain ⟨c18, H⟩ := Z.ifp H
       have c18b0 : decide (0 ≤ x26_2) = true := decide_eq_true c18
       clear c18
       obtain ⟨c19, H⟩ := Z.ifp H
       have c19b0 : decide (x26_2 < (l2.length : Int)) = true := decide_eq_true c19
       clear c19
       replace H := Option.bind_eq_some_iff.mp H
       obtain ⟨t662, A200, H⟩ := H
       have A20 := Z.k A200
       clear A200
       by_cases c21 : t662 = true
       ·subst c21
        rw [if_pos rfl] at H
        obtain ⟨c22, H⟩ := Z.ifp H
        have c22b0 : decide (0 ≤ ((rd_T48 l2 x26_2).f0)) = true := decide_eq_true c22
        clear c22
        obtain ⟨c23, H⟩ := Z.ifp H
        have c23b0 : decide (((rd_T48 l2 x26_2).f0) < (x8_2.length : Int)) = true := decide_eq_true c23
        clear c23
        obtain ⟨y663, hy663⟩ : ∃ y_ : List Int, y_ = (x8_2.set (((rd_T48 l2 x26_2).f0) : Int).toNat ((rd_T48 l2 x26_2).f1)) := ⟨_, rfl⟩
        replace H : (impl_AfterActs.l0 k2 y663 (wrap64 (x9_2 + 1)) l2 (l2.length : Int) (wrap64 (x26_2 + 1)) a0_0 l0_1 l0_2) = some (r1, r2) := by (rw [hy663]; with_reducible exact H)
        have Ny663 := Z.k hy663
        clear hy663
        have H' := Z.k H
        clear H
        have p660 : 0 ≤ (x26_2 : Int) := Z.od
        have q660 : x26_2 < (l2.length : Int) := Z.od
        obtain ⟨ad660, rfl, hx660_0, hx660_1, hx660_2⟩ := at_T48 HR2.out x26_2 p660 q660
        replace hx660_0 := Z.up HB.out hx660_0
        replace hx660_1 := Z.up HB.out hx660_1
        replace hx660_2 := Z.up HB.out hx660_2
        replace p660 := eq_true p660
        replace q660 := eq_true q660
        go_wp2_with (first | ((with_reducible refine gate_dst (N := 11) rfl ?_); (try (refine gate_guard (by rfl) ?_; dsimp only)); refine Z.bz #[.int .i64 0, .int .i64 0, .int .i64 0] 48 HB GE652 ?_; clear HB; intro gb661 w25 BK661 GE661 HB hg hb; have GW661 := GE661; replace HO_8 := Z.k (Kd.R_below HO_8.out hb); have NB652_661 := Z.nl hg BK652; have NB661_652 := Z.ng hg BK652; replace BK652 := Z.bb BK652 hb; clear hb hg; have hnb26 := NB661_652.out; have hnc26 := NB652_661.out; have hcz27 := Z.c3 BK661.out; have hcz28 := Z.c3 BK652.out; obtain ⟨Ao29, co29, eo29⟩ := Kd.R_slice HO_8.out; subst eo29) | ((with_reducible refine gate_callee (f := 76) rfl ?_); refine goesL_ (some 33) rfl rfl Try.func76 (by kernel_rfl) rfl #[.agg #[.int .i64 a0_0, .slice A0_1 l0_1.length c0_1, .slice A0_2 l0_2.length c0_2], .slice Ao29 x8_2.length co29, .agg #[.int .i64 ((rd_T48 l2 x26_2).f0), .int .i64 ((rd_T48 l2 x26_2).f1), .int .i64 ((rd_T48 l2 x26_2).f2)]] rfl Z.ar ?_; (with_reducible refine (impl_mayAct.calls k2 a0_0 _ _ l0_1 _ _ l0_2 _ _ x8_2 ((rd_T48 l2 x26_2).f0) ((rd_T48 l2 x26_2).f1) ((rd_T48 l2 x26_2).f2) true _ ?q1 ?q2 ?q3 ?q4 ?q5 ?q6 A20.out).mono ?_); (case q1 => exact Kd.C_below HR0_1.out (by repeat ((with_reducible first | exact HB.out | refine below_set ?_ GE661.out)))); (case q2 => exact HC0_1.out); (case q3 => exact Kd.C_below HR0_2.out (by repeat ((with_reducible first | exact HB.out | refine below_set ?_ GE661.out)))); (case q4 => exact HC0_2.out); (case q5 => refine (Kd.R_reads' (e := 3) (base := w.heap.size) (ok := fun k_ => True) (n := x8_2.length) (c := co29) ?_).2.2; exact (Kd.R_mono (Kd.R_far (p := ⟨gb661, 2, none⟩) (Kd.R_far (p := ⟨gb661, 1, none⟩) (Kd.R_far (p := ⟨gb661, 0, none⟩) (Kd.R_types HO_8.out BK661.out (by decide)) (fun _ hk => hk.2) (.int .i64 ((rd_T48 l2 x26_2).f0))) (fun _ hk => hk.2) (.int .i64 ((rd_T48 l2 x26_2).f1))) (fun _ hk => hk.2) (.int .i64 ((rd_T48 l2 x26_2).f2))) (fun _ h_ => h_.1))); (case q6 => exact (Kd.R_reads' HO_8.out).2.1); rintro e w30 ⟨rfl, hb⟩; refine ⟨_, rfl, ?_⟩; replace HO_8 := Z.k (Kd.R_below (Kd.R_mono (Kd.R_far (p := ⟨gb661, 2, none⟩) (Kd.R_far (p := ⟨gb661, 1, none⟩) (Kd.R_far (p := ⟨gb661, 0, none⟩) (Kd.R_types HO_8.out BK661.out (by decide)) (fun _ hk => hk.2) (.int .i64 ((rd_T48 l2 x26_2).f0))) (fun _ hk => hk.2) (.int .i64 ((rd_T48 l2 x26_2).f1))) (fun _ hk => hk.2) (.int .i64 ((rd_T48 l2 x26_2).f2))) (fun _ h_ => h_.1)) hb); replace BK652 := Z.k (blk_below (g := gb652) (o := .cells #[.int .i64 a0_0, .slice A0_1 l0_1.length c0_1, .slice A0_2 l0_2.length c0_2] 46 (0, 0)) (by refine blk_far ?_ NB652_661.out _; refine blk_far ?_ NB652_661.out _; refine blk_far ?_ NB652_661.out _; exact BK652.out) hb); replace BK661 := Z.k (blk_below (g := gb661) (o := .cells #[.int .i64 ((rd_T48 l2 x26_2).f0), .int .i64 ((rd_T48 l2 x26_2).f1), .int .i64 ((rd_T48 l2 x26_2).f2)] 48 (0, 0)) (by refine blk_put (cs := #[.int .i64 ((rd_T48 l2 x26_2).f0), .int .i64 ((rd_T48 l2 x26_2).f1), .int .i64 0]) ?_ 2 _ rfl; refine blk_put (cs := #[.int .i64 ((rd_T48 l2 x26_2).f0), .int .i64 0, .int .i64 0]) ?_ 1 _ rfl; refine blk_put (cs := #[.int .i64 0, .int .i64 0, .int .i64 0]) ?_ 0 _ rfl; exact BK661.out) hb); replace HB := Z.k (below_step (by repeat ((with_reducible first | exact HB.out | refine below_set ?_ GE661.out))) hb); (try clear hb); have hcz31 := Z.c3 BK661.out; have p24 : 0 ≤ (((rd_T48 l2 x26_2).f0) : Int) := Z.od; have q24 : (((rd_T48 l2 x26_2).f0) : Int) < ((x8_2.length : Int) : Int) := Z.od; obtain ⟨go24, co24, eo24, gb24, gl24, cl24, HG24⟩ := Kd.R_form HO_8.out (by omega); (cases eo24); have GB24 := Z.k gb24; have GG24 := Z.k HG24; clear gb24 gl24 HG24; obtain ⟨hx24_0, hf24_0⟩ := Kd.R_celln 0 HO_8.out (((rd_T48 l2 x26_2).f0) : Int) p24 q24; replace p24 := eq_true p24; replace q24 := eq_true q24; obtain ⟨hy32_, hz32_⟩ := Kd.R_celln 0 HO_8.out (((rd_T48 l2 x26_2).f0) : Int) (Z.od) (Z.od); have HP32 := Kd.R_putg HO_8.out (((rd_T48 l2 x26_2).f0) : Int) ((rd_T48 l2 x26_2).f1)) | ((with_reducible refine gate_store (t := 3) (p := 39) rfl ?_); refine store_event (t := 3) (p := 39) (v := ?vo_w33) (w1 := (w30.setCell ⟨go24, (((rd_T48 l2 x26_2).f0) : Int).toNat, none⟩ (.int .i64 ((rd_T48 l2 x26_2).f1)))) ?hg ?ho ?hn ?hr ?_; (case ho => rfl); (case hg => rfl); (case hn => rfl); (case hr => (go_simp; done)); intro w33 hw; have hg : w30.grownBy w33 (some go24) := (by rw [hw]; exact HP32.2); have hp_ : Kd.R (Kd.int .i64) 3 w33 w.heap.size (fun _ => True) (.slice (some ⟨go24, 0, none⟩) x8_2.length co29) y663 := (by rw [hw, Ny663.out]; exact HP32.1); clear HP32; replace BK652 := Z.k (blk_grown (g := gb652) (o := .cells #[.int .i64 a0_0, .slice A0_1 l0_1.length c0_1, .slice A0_2 l0_2.length c0_2] 46 (0, 0)) (Z.bk BK652.out) hg (Kd.R_ne HO_8.out BK652.out (by decide))); replace BK661 := Z.k (blk_grown (g := gb661) (o := .cells #[.int .i64 ((rd_T48 l2 x26_2).f0), .int .i64 ((rd_T48 l2 x26_2).f1), .int .i64 ((rd_T48 l2 x26_2).f2)] 48 (0, 0)) (Z.bk BK661.out) hg (Kd.R_ne HO_8.out BK661.out (by decide))); replace HO_8 := Z.k hp_; replace HB := Z.k ((by rw [hw]; exact below_set (HB.out) GB24.out : Below w.heap.size w w33)); clear hg hw hp_))
        go_roundg k2
        case measure => have := HJ3.out; have := HK2.out; omega
        case rel => exact ⟨(y663), (wrap64 (x9_2 + 1)), (wrap64 (x26_2 + 1)), (by rfl), (by rfl), H', ⟨by have := HJ3.out; have := HK2.out; omega⟩, ⟨by exact HO_8.out⟩, ⟨by exact BK652.out⟩, ⟨HB.out⟩⟩
       ·replace c21 := Bool.eq_false_iff.mpr c21
        subst c21
        rw [if_neg (show ¬ (false = true) by decide)] at H
        have H' := Z.k H
        clear H
        have p660 : 0 ≤ (x26_2 : Int) := Z.od
        have q660 : x26_2 < (l2.length : Int) := Z.od
        obtain ⟨ad660, rfl, hx660_0, hx660_1, hx660_2⟩ := at_T48 HR2.out x26_2 p660 q660
        replace hx660_0 := Z.up HB.out hx660_0
        replace hx660_1 := Z.up HB.out hx660_1
        replace hx660_2 := Z.up HB.out hx660_2
        replace p660 := eq_true p660
        replace q660 := eq_true q660
        go_wp2_with (first | ((with_reducible refine gate_dst (N := 11) rfl ?_); (try (refine gate_guard (by rfl) ?_; dsimp only)); refine Z.bz #[.int .i64 0, .int .i64 0, .int .i64 0] 48 HB GE652 ?_; clear HB; intro gb661 w34 BK661 GE661 HB hg hb; have GW661 := GE661; replace HO_8 := Z.k (Kd.R_below HO_8.out hb); have NB652_661 := Z.nl hg BK652; have NB661_652 := Z.ng hg BK652; replace BK652 := Z.bb BK652 hb; clear hb hg; have hnb35 := NB661_652.out; have hnc35 := NB652_661.out; have hcz36 := Z.c3 BK661.out; have hcz37 := Z.c3 BK652.out; obtain ⟨Ao38, co38, eo38⟩ := Kd.R_slice HO_8.out; subst eo38) | ((with_reducible refine gate_callee (f := 76) rfl ?_); refine goesL_ (some 33) rfl rfl Try.func76 (by kernel_rfl) rfl #[.agg #[.int .i64 a0_0, .slice A0_1 l0_1.length c0_1, .slice A0_2 l0_2.length c0_2], .slice Ao38 x8_2.length co38, .agg #[.int .i64 ((rd_T48 l2 x26_2).f0), .int .i64 ((rd_T48 l2 x26_2).f1), .int .i64 ((rd_T48 l2 x26_2).f2)]] rfl Z.ar ?_; (with_reducible refine (impl_mayAct.calls k2 a0_0 _ _ l0_1 _ _ l0_2 _ _ x8_2 ((rd_T48 l2 x26_2).f0) ((rd_T48 l2 x26_2).f1) ((rd_T48 l2 x26_2).f2) false _ ?q1 ?q2 ?q3 ?q4 ?q5 ?q6 A20.out).mono ?_); (case q1 => exact Kd.C_below HR0_1.out (by repeat ((with_reducible first | exact HB.out | refine below_set ?_ GE661.out)))); (case q2 => exact HC0_1.out); (case q3 => exact Kd.C_below HR0_2.out (by repeat ((with_reducible first | exact HB.out | refine below_set ?_ GE661.out)))); (case q4 => exact HC0_2.out); (case q5 => refine (Kd.R_reads' (e := 3) (base := w.heap.size) (ok := fun k_ => True) (n := x8_2.length) (c := co38) ?_).2.2; exact (Kd.R_mono (Kd.R_far (p := ⟨gb661, 2, none⟩) (Kd.R_far (p := ⟨gb661, 1, none⟩) (Kd.R_far (p := ⟨gb661, 0, none⟩) (Kd.R_types HO_8.out BK661.out (by decide)) (fun _ hk => hk.2) (.int .i64 ((rd_T48 l2 x26_2).f0))) (fun _ hk => hk.2) (.int .i64 ((rd_T48 l2 x26_2).f1))) (fun _ hk => hk.2) (.int .i64 ((rd_T48 l2 x26_2).f2))) (fun _ h_ => h_.1))); (case q6 => exact (Kd.R_reads' HO_8.out).2.1); rintro e w39 ⟨rfl, hb⟩; refine ⟨_, rfl, ?_⟩; replace HO_8 := Z.k (Kd.R_below (Kd.R_mono (Kd.R_far (p := ⟨gb661, 2, none⟩) (Kd.R_far (p := ⟨gb661, 1, none⟩) (Kd.R_far (p := ⟨gb661, 0, none⟩) (Kd.R_types HO_8.out BK661.out (by decide)) (fun _ hk => hk.2) (.int .i64 ((rd_T48 l2 x26_2).f0))) (fun _ hk => hk.2) (.int .i64 ((rd_T48 l2 x26_2).f1))) (fun _ hk => hk.2) (.int .i64 ((rd_T48 l2 x26_2).f2))) (fun _ h_ => h_.1)) hb); replace BK652 := Z.k (blk_below (g := gb652) (o := .cells #[.int .i64 a0_0, .slice A0_1 l0_1.length c0_1, .slice A0_2 l0_2.length c0_2] 46 (0, 0)) (by refine blk_far ?_ NB652_661.out _; refine blk_far ?_ NB652_661.out _; refine blk_far ?_ NB652_661.out _; exact BK652.out) hb); replace BK661 := Z.k (blk_below (g := gb661) (o := .cells #[.int .i64 ((rd_T48 l2 x26_2).f0), .int .i64 ((rd_T48 l2 x26_2).f1), .int .i64 ((rd_T48 l2 x26_2).f2)] 48 (0, 0)) (by refine blk_put (cs := #[.int .i64 ((rd_T48 l2 x26_2).f0), .int .i64 ((rd_T48 l2 x26_2).f1), .int .i64 0]) ?_ 2 _ rfl; refine blk_put (cs := #[.int .i64 ((rd_T48 l2 x26_2).f0), .int .i64 0, .int .i64 0]) ?_ 1 _ rfl; refine blk_put (cs := #[.int .i64 0, .int .i64 0, .int .i64 0]) ?_ 0 _ rfl; exact BK661.out) hb); replace HB := Z.k (below_step (by repeat ((with_reducible first | exact HB.out | refine below_set ?_ GE661.out))) hb); (try clear hb)))
        go_roundg k2
        case measure => have := HJ3.out; have := HK2.out; omega
        case rel => exact ⟨(x8_2), (x9_2), (wrap64 (x26_2 + 1)), (by rfl), (by rfl), H', ⟨by have := HJ3.out; have := HK2.out; omega⟩, ⟨by exact HO_8.out⟩, ⟨by exact BK652.out⟩, ⟨HB.out⟩⟩
      ·rw [if_neg c17] at H
       have c17b0 := decide_eq_false c17
       clear c17
       simp only [Option.some.injEq, Prod.mk.injEq] at H
       obtain ⟨rfl, rfl⟩ := H
       go_wp2
       go_ret2
       exact ⟨_, by rfl, by exact HO_8.out, Z.bs HB.out GE652.out⟩

/-! ### impl_MayChange: function 31 -/
def impl_MayChange.f (k : Nat) (a0_0 : Int) (l0_1 : List Int) (l0_2 : List (List (S91))) (l1 : List Int) (a2 : Int) (a3 : Int) (a4 : Int) : Option (Bool) := (impl_isState.f k a0_0 l0_1 l0_2 l1).bind fun t665 => (if t665 = true then ((impl_isCrowd.f a0_0 a4).bind fun t666 => (if t666 = true then ((impl_mayChange.f k a0_0 l0_1 l0_2 l1 a2 a3 a4).bind fun t667 => (some t667)) else (some false))) else (some false))
/-! ### spec_l3Starts: function 108 -/
def spec_l3Starts.l0 : Nat → List (S35) → Int → Int → Option (Int)
 | 0, _, _, _ => none
 | k + 1, x0, x5, x6 => if x5 > 0 then (if 0 ≤ x6 then (if x6 < (x0.length : Int) then (if ((rd_T35 x0 x6).f0) = 0 then (spec_l3Starts.l0 k x0 (wrap64 (x5 - 1)) (wrap64 (x6 - 1))) else (spec_l3Starts.l0 k x0 (wrap64 (x5 + 1)) (wrap64 (x6 - 1)))) else (none)) else (none)) else (some (wrap64 (x6 + 1)))
def spec_l3Starts.f (k : Nat) (l0 : List (S35)) (a1 : Int) : Option (Int) := spec_l3Starts.l0 k l0 1 a1
set_option maxHeartbeats 8000000 in
set_option maxRecDepth 100000 in
theorem spec_l3Starts.calls (k : Nat) (A0 : Option Addr) (c0 : Nat) (l0 : List (S35)) (a1 : Int) (r : Int) (w : World) (hr0 : Kd.C k35 w A0 l0.length l0) (hc0 : l0.length ≤ c0) (h : spec_l3Starts.f k l0 a1 = some r) :
  Calls Try.prog 108 #[.slice A0 l0.length c0, .int .i64 a1] w fun e w' => e = .returned (.int .i64 r) ∧ Drawn0 w w' := by
 have HR0 := Z.k hr0
 have HC0 := Z.k hc0
 clear hr0 hc0
 have H := h
 clear h
 unfold spec_l3Starts.f at H
 have H' := Z.k H
 clear H
 go_enter Try.func108, Try.ntmps108
 go_wp2
 go_loopg [5, 6] k (fun kq v5 v6 w' => ∃ (x5_1 : Int) (x6_1 : Int), v5 = .int .i64 x5_1 ∧ v6 = .int .i64 x6_1 ∧ Aside0 (spec_l3Starts.l0 kq l0 x5_1 x6_1 = some r) ∧ Aside0 (kq ≤ k) ∧ Drawn0 w w')
 case atStart => exact ⟨(1), (a1), (by rfl), (by rfl), H', ⟨Nat.le_refl _⟩, Drawn0.refl _⟩
 case round =>
  clear H'
  obtain ⟨x5_1, x6_1, rfl, rfl, HA, HK1, ⟨m1, rfl⟩⟩ := hrel
  cases gk with
  | zero => exact absurd HA.out (by simp [spec_l3Starts.l0])
  | succ k1 =>
   have H := HA.out
   clear HA
   simp only [spec_l3Starts.l0] at H
   by_cases c3 : x5_1 > 0
   ·rw [if_pos c3] at H
    have c3b0 : decide (0 < x5_1) = true := decide_eq_true c3
    clear c3
    obtain ⟨c4, H⟩ := Z.ifp H
    have c4b0 : decide (0 ≤ x6_1) = true := decide_eq_true c4
    clear c4
    obtain ⟨c5, H⟩ := Z.ifp H
    have c5b0 : decide (x6_1 < (l0.length : Int)) = true := decide_eq_true c5
    clear c5
    by_cases c6 : ((rd_T35 l0 x6_1).f0) = 0
    ·rw [if_pos c6] at H
     have c6b0 : (((rd_T35 l0 x6_1).f0) == 0) = true := beq_iff_eq.mpr c6
     have c6b1 : (((rd_T35 l0 x6_1).f0) != 0) = false := bne_eq_false_iff_eq.mpr c6
     clear c6
     have H' := Z.k H
     clear H
     have p697 : 0 ≤ (x6_1 : Int) := Z.od
     have q697 : x6_1 < (l0.length : Int) := Z.od
     obtain ⟨ad697, rfl, hx697_0, hx697_1, hx697_2⟩ := at_T35 HR0.out x6_1 p697 q697
     replace p697 := eq_true p697
     replace q697 := eq_true q697
     go_wp2
     go_roundg k1
     case measure => have := HK1.out; omega
     case rel => exact ⟨(wrap64 (x5_1 - 1)), (wrap64 (x6_1 - 1)), (by rfl), (by rfl), H', ⟨by have := HK1.out; omega⟩, by repeat (first | exact Drawn0.refl _ | apply Drawn0.step)⟩
    ·rw [if_neg c6] at H
     have c6b0 : (((rd_T35 l0 x6_1).f0) == 0) = false := beq_eq_false_iff_ne.mpr c6
     have c6b1 : (((rd_T35 l0 x6_1).f0) != 0) = true := bne_iff_ne.mpr c6
     have H' := Z.k H
     clear H
     have p697 : 0 ≤ (x6_1 : Int) := Z.od
     have q697 : x6_1 < (l0.length : Int) := Z.od
     obtain ⟨ad697, rfl, hx697_0, hx697_1, hx697_2⟩ := at_T35 HR0.out x6_1 p697 q697
     replace p697 := eq_true p697
     replace q697 := eq_true q697
     go_wp2
     go_roundg k1
     case measure => have := HK1.out; omega
     case rel => exact ⟨(wrap64 (x5_1 + 1)), (wrap64 (x6_1 - 1)), (by rfl), (by rfl), H', ⟨by have := HK1.out; omega⟩, by repeat (first | exact Drawn0.refl _ | apply Drawn0.step)⟩
   ·rw [if_neg c3] at H
    have c3b0 : decide (0 < x5_1) = false := decide_eq_false c3
    clear c3
    obtain rfl := Option.some.inj H
    go_wp2
    go_ret
    exact ⟨by rfl, by repeat (first | exact Drawn0.refl _ | apply Drawn0.step)⟩

end Go.Proofs.Ytojoblllgddckaa.PAll

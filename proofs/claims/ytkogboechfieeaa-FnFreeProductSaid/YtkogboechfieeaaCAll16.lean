/- Walks of functions that laws of this seat reach, in the form of the print. -/
import Derived.Test.YtkogboechfieeaaCAll6
-- PRINTED
namespace Go.Proofs.Ytkogboechfieeaa.PAll
open Go.RowKit Go.Proofs.YtkogboechfieeaaW.PrintWords Go.Proofs.YtkogboechfieeaaW.PrintLast Go.Proofs.YtkogboechfieeaaW.PrintMore
attribute [local go_sem] max2_int min2_int max_two min_two max_three min_three max_four min_four
set_option linter.unusedVariables false
set_option linter.unusedSimpArgs false

/-! ### impl_consents: function 101 -/
def impl_consents.l0 : Nat → Int → List Bool → List (S111) → Int → Int → Int → List Int → Option (Bool)
 | 0, _, _, _, _, _, _, _ => none
 | k + 1, x2, x7, x14, x15, x16, x89, x87 => if x16 < x15 then (if 0 ≤ x16 then (if x16 < (x14.length : Int) then (if ((rd_T111 x14 x16).f0) = 0 then (if 0 ≤ ((rd_T111 x14 x16).f1) then (if ((rd_T111 x14 x16).f1) < (x87.length : Int) then ((impl_headsOf.f (Go.bits .and .i64 (rd x87 ((rd_T111 x14 x16).f1)) x2)).bind fun t97 => (if x7.length < 140737488355328 then (impl_consents.l0 k x2 (x7 ++ [decide (t97 ≥ ((rd_T111 x14 x16).f2))]) x14 x15 (wrap64 (x16 + 1)) x89 x87) else (none))) else (none)) else (none)) else (if 0 ≤ (wrap64 ((x7.length : Int) - 2)) then (if (wrap64 ((x7.length : Int) - 2)) < (x7.length : Int) then (if 0 ≤ (wrap64 ((x7.length : Int) - 1)) then (if (wrap64 ((x7.length : Int) - 1)) < (x7.length : Int) then (if rdOf false x7 (wrap64 ((x7.length : Int) - 2)) = true then (if ((rd_T111 x14 x16).f0) = 2 then (if (wrap64 ((x7.length : Int) - 2)) ≤ (x7.length : Int) then ((some (x7.take ((wrap64 ((x7.length : Int) - 2)) : Int).toNat : List Bool)).bind fun y82 => (if y82.length < 140737488355328 then (impl_consents.l0 k x2 (y82 ++ [true]) x14 x15 (wrap64 (x16 + 1)) x89 x87) else (none))) else (none)) else (if (wrap64 ((x7.length : Int) - 2)) ≤ (x7.length : Int) then ((some (x7.take ((wrap64 ((x7.length : Int) - 2)) : Int).toNat : List Bool)).bind fun y83 => (if y83.length < 140737488355328 then (impl_consents.l0 k x2 (y83 ++ [rdOf false x7 (wrap64 ((x7.length : Int) - 1))]) x14 x15 (wrap64 (x16 + 1)) x89 x87) else (none))) else (none))) else (if ((rd_T111 x14 x16).f0) = 2 then (if (wrap64 ((x7.length : Int) - 2)) ≤ (x7.length : Int) then ((some (x7.take ((wrap64 ((x7.length : Int) - 2)) : Int).toNat : List Bool)).bind fun y84 => (if y84.length < 140737488355328 then (impl_consents.l0 k x2 (y84 ++ [rdOf false x7 (wrap64 ((x7.length : Int) - 1))]) x14 x15 (wrap64 (x16 + 1)) x89 x87) else (none))) else (none)) else (if (wrap64 ((x7.length : Int) - 2)) ≤ (x7.length : Int) then ((some (x7.take ((wrap64 ((x7.length : Int) - 2)) : Int).toNat : List Bool)).bind fun y85 => (if y85.length < 140737488355328 then (impl_consents.l0 k x2 (y85 ++ [false]) x14 x15 (wrap64 (x16 + 1)) x89 x87) else (none))) else (none)))) else (none)) else (none)) else (none)) else (none))) else (none)) else (none)) else (if 0 < (x7.length : Int) then (some (rdOf false x7 0)) else (none))
def impl_consents.f (k : Nat) (a0_0 : Int) (l0_1 : List Int) (l1 : List (S111)) (a2 : Int) : Option (Bool) := impl_consents.l0 k a2 (([] : List Bool)) l1 (l1.length : Int) 0 a0_0 l0_1
theorem impl_consents.mono_l : ∀ k, (∀ y0 y1 y2 y3 y4 y5 y6, LeO (impl_consents.l0 k y0 y1 y2 y3 y4 y5 y6) (impl_consents.l0 (k + 1) y0 y1 y2 y3 y4 y5 y6))
 | 0 => fun _ _ _ _ _ _ _ r h => by simp [impl_consents.l0] at h
 | k + 1 => by
  have ih0 := impl_consents.mono_l k
  ·intro y0 y1 y2 y3 y4 y5 y6
   unfold impl_consents.l0
   repeat' first
   | (with_reducible exact LeO.refl _)
   | exact ih0 _ _ _ _ _ _ _
   | exact LeO.none _
   | refine LeO.ite ?_ ?_
   | refine LeO.bind ?_ (fun _ => ?_)
theorem impl_consents.mono : ∀ a0 a1 a2 a3 k, LeO (impl_consents.f k a0 a1 a2 a3) (impl_consents.f (k + 1) a0 a1 a2 a3) := by
 intro a0 a1 a2 a3 k
 have ih0 := impl_consents.mono_l k
 unfold impl_consents.f
 repeat' first
   | (with_reducible exact LeO.refl _)
   | exact ih0 _ _ _ _ _ _ _
   | exact LeO.none _
   | refine LeO.ite ?_ ?_
   | refine LeO.bind ?_ (fun _ => ?_)
def impl_consents.T6 : Bool × List (List Nat × List Nat) := (true, [([], []), ([], []), ([1], [1]), ([], []), ([3], [3]), ([2, 4], [2, 4]), ([5], [5]), ([], []), ([6, 7], [6, 7]), ([8], [8]), ([], []), ([10], [10]), ([9, 11], [9, 11]), ([12], [12]), ([0, 13, 9], [0, 13]), ([14, 14, 0, 1, 2, 3, 4, 5, 6, 7, 8, 9, 10, 11, 12, 13, 14], [0, 14])])
def impl_consents.B6 : List Nat := [0, 0, 2, 0, 8, 30, 62, 0, 254, 510, 0, 1024, 4094, 8190, 16383, 32767]
theorem impl_consents.tab6 : rtab .any (opsOf Try.f101 6) = impl_consents.T6 := by kernel_rfl
theorem impl_consents.bits6 : waitsOk impl_consents.T6.2 impl_consents.B6 = true := by kernel_rfl
def impl_consents.T7 : Bool × List (List Nat × List Nat) := (true, [([], []), ([], []), ([1], [1]), ([2], [2]), ([0, 3], [0, 3]), ([4], [4]), ([], []), ([], []), ([7], [7]), ([8], [8]), ([6, 9], [6, 9]), ([10], [10]), ([5, 0, 1, 2, 3, 4, 5], [5]), ([11, 12, 0, 1, 2, 3, 4, 5, 6, 7, 8, 9, 10, 11, 12], [11])])
def impl_consents.B7 : List Nat := [0, 0, 2, 6, 15, 31, 0, 0, 128, 384, 960, 1984, 63, 8191]
theorem impl_consents.tab7 : rtab .any (opsOf Try.f101 7) = impl_consents.T7 := by kernel_rfl
theorem impl_consents.bits7 : waitsOk impl_consents.T7.2 impl_consents.B7 = true := by kernel_rfl
set_option maxHeartbeats 8000000 in
set_option maxRecDepth 100000 in
theorem impl_consents.calls (k : Nat) (a0_0 : Int) (A0_1 : Option Addr) (c0_1 : Nat) (l0_1 : List Int) (A1 : Option Addr) (c1 : Nat) (l1 : List (S111)) (a2 : Int) (r : Bool) (w : World) (hr0_1 : Kd.C (Kd.int .i64) w A0_1 l0_1.length l0_1) (hc0_1 : l0_1.length ≤ c0_1) (hr1 : Kd.C k111 w A1 l1.length l1) (hc1 : l1.length ≤ c1) (h : impl_consents.f k a0_0 l0_1 l1 a2 = some r) :
  Calls Try.prog 101 #[.agg #[.int .i64 a0_0, .slice A0_1 l0_1.length c0_1], .slice A1 l1.length c1, .int .i64 a2] w fun e w' => e = .returned (.bool r) ∧ Below w.heap.size w w' := by
 have hu25 := Try.underlying25
 have hu35 := Try.underlying111
 have HR0_1 := Z.k hr0_1
 have HC0_1 := Z.k hc0_1
 clear hr0_1 hc0_1
 have HR1 := Z.k hr1
 have HC1 := Z.k hc1
 clear hr1 hc1
 have HB := Z.k (Below.refl w.heap.size w)
 have H := h
 clear h
 unfold impl_consents.f at H
 obtain ⟨y90, hy90⟩ : ∃ y_ : List Bool, y_ = (([] : List Bool)) := ⟨_, rfl⟩
 replace H : (impl_consents.l0 k a2 y90 l1 (l1.length : Int) 0 a0_0 l0_1) = some r := by (rw [hy90]; with_reducible exact H)
 have Ny90 := Z.k hy90
 clear hy90
 have H' := Z.k H
 clear H
 go_enter Try.func101, Try.ntmps101
 go_wp2_with (first | ((with_reducible refine gate_dst (N := 3) rfl ?_); refine Z.bx #[.int .i64 a0_0, .slice A0_1 l0_1.length c0_1] 25 HB ?_; clear HB; intro gb78 w4 BK78 GE78 HB hg hb; have GW78 := GE78; clear hb hg) | ((with_reducible refine gate_dst (N := 13) rfl ?_); refine Kd.R_lit Kd.bool _ 4 ?hg (N := 13) ?hd (xs := ([] : List Bool)) (inner := []) (ok := fun _ => True) (okp := fun _ => True) ?hr ?hp (fun _ hk => hk) trivial (Below.refl _ _) (Nat.le_refl _) (by simp) ?_; (case hd | hg => rfl); (case hr => (go_simp; done)); (case hp => exact (Reps.none _ _)); intro v193 w5 ho6 hb hg_ hnew_; clear hg_ hnew_; (rw [← Ny90.out] at ho6); have HO194 := Z.k (Kd.R_lower ho6 (below_size (Z.bs HB.out GE78.out))); replace BK78 := Z.bb BK78 hb; replace HB := Z.st (Z.bs HB.out GE78.out) hb; clear hb ho6))
 go_loopg [7, 16] k (fun kq v7 v16 w' => ∃ (x7_1 : List Bool) (x16_1 : Int), v16 = .int .i64 x16_1 ∧ Aside0 (impl_consents.l0 kq a2 x7_1 l1 (l1.length : Int) x16_1 a0_0 l0_1 = some r) ∧ Aside0 (kq ≤ k) ∧ Aside0 (Kd.R Kd.bool 4 w' w.heap.size (fun _ => True) v7 x7_1) ∧ Aside0 (w'.heap[gb78]? = some (.cells #[.int .i64 a0_0, (.slice A0_1 l0_1.length c0_1)] 25 (0, 0))) ∧ Aside0 (Below w.heap.size w w'))
 case atStart => exact ⟨(y90), (0), (by rfl), H', ⟨Nat.le_refl _⟩, ⟨by exact HO194.out⟩, ⟨by exact BK78.out⟩, ⟨Z.bs HB.out GE78.out⟩⟩
 clear H'
 obtain ⟨x7_1, x16_1, rfl, HA, HK1, HO_7, BK78, HB⟩ := hrel
 cases gk with
 | zero => exact absurd HA.out (by simp [impl_consents.l0])
 | succ k1 =>
  have H := HA.out
  clear HA
  simp only [impl_consents.l0] at H
  revert H; refine Z.fm ?_ ?_ <;> intro c7b0 H
  ·obtain ⟨c75, H⟩ := Z.ifp H
   have c75b0 : decide (0 < (x7_1.length : Int)) = true := decide_eq_true c75
   have c75b1 : decide (0 < x7_1.length) = true := decide_eq_true (by omega)
   clear c75
   obtain rfl := Option.some.inj H
   obtain ⟨Ao76, co76, eo76⟩ := Kd.R_slice HO_7.out
   subst eo76
   have p88 : 0 ≤ (0 : Int) := (by omega)
   have q88 : 0 < (x7_1.length : Int) := Z.od
   obtain ⟨ad88, e88, hx88_0⟩ := Kd.at_bool (Kd.R_reads' HO_7.out).2.2 0 p88 q88
   cases e88
   have qi88 : (0 < x7_1.length) = True := eq_true (by omega)
   (try rw [show ((0 : Int)).toNat = 0 from rfl] at hx88_0)
   (try rw [Addr.add_zero'] at hx88_0)
   replace p88 := eq_true p88
   replace q88 := eq_true q88
   go_wp2
   go_ret
   exact ⟨by rfl, Z.bs HB.out GE78.out⟩

  obtain ⟨c8b0, H⟩ := Z.fd H
  obtain ⟨c9b0, H⟩ := Z.fd H
  by_cases c10 : ((rd_T111 l1 x16_1).f0) = 0
  ·rw [if_pos c10] at H
   have c10b0 : (((rd_T111 l1 x16_1).f0) == 0) = true := beq_iff_eq.mpr c10
   have c10b1 : (((rd_T111 l1 x16_1).f0) != 0) = false := bne_eq_false_iff_eq.mpr c10
   clear c10
   obtain ⟨c11b0, H⟩ := Z.fd H
   obtain ⟨c12b0, H⟩ := Z.fd H
   revert H; refine Z.bd ?_; rintro t97 A13 H
   obtain ⟨c14, H⟩ := Z.ifp H
   have LMc14 := Z.k c14
   clear c14
   obtain ⟨y91, hy91⟩ : ∃ y_ : List Bool, y_ = (x7_1 ++ [decide (t97 ≥ ((rd_T111 l1 x16_1).f2))]) := ⟨_, rfl⟩
   replace H : (impl_consents.l0 k1 a2 y91 l1 (l1.length : Int) (wrap64 (x16_1 + 1)) a0_0 l0_1) = some r := by (rw [hy91]; with_reducible exact H)
   have Ny91 := Z.k hy91
   clear hy91
   have H' := Z.k H
   clear H
   have p79 : 0 ≤ (x16_1 : Int) := Z.od
   have q79 : x16_1 < (l1.length : Int) := Z.od
   obtain ⟨ad79, rfl, hx79_0, hx79_1, hx79_2⟩ := at_T111 HR1.out x16_1 p79 q79
   replace hx79_0 := Z.up HB.out hx79_0
   replace hx79_1 := Z.up HB.out hx79_1
   replace hx79_2 := Z.up HB.out hx79_2
   replace p79 := eq_true p79
   replace q79 := eq_true q79
   try go_wp2_with (((with_reducible refine gate_dst (N := 9) rfl ?_); refine Z.bz #[.int .i64 0, .int .i64 0, .int .i64 0] 111 HB GE78 ?_; clear HB; intro gb77 w15 BK77 GE77 HB hg hb; have GW77 := GE77; replace HO_7 := Z.rb HO_7 hb; have NB78_77 := Z.nl hg BK78; have NB77_78 := Z.ng hg BK78; replace BK78 := Z.bb BK78 hb; clear hb hg; have hnb16 := NB77_78.out; have hnc16 := NB78_77.out; have hcz17 := Z.c3 BK77.out))
   have n0_ : Aside0 (Kd.R Kd.bool 4 (((w15.setCell ⟨gb77, 0, none⟩ (.int .i64 ((rd_T111 l1 x16_1).f0))).setCell ⟨gb77, 1, none⟩ (.int .i64 ((rd_T111 l1 x16_1).f1))).setCell ⟨gb77, 2, none⟩ (.int .i64 ((rd_T111 l1 x16_1).f2))) w.heap.size (fun _ => True) u7 x7_1) := ⟨by exact Kd.R_mono (Kd.R_far (p := ⟨gb77, 2, none⟩) (Kd.R_far (p := ⟨gb77, 1, none⟩) (Kd.R_far (p := ⟨gb77, 0, none⟩) (Kd.R_types HO_7.out BK77.out (by decide)) (fun _ hk => hk.2) (.int .i64 ((rd_T111 l1 x16_1).f0))) (fun _ hk => hk.2) (.int .i64 ((rd_T111 l1 x16_1).f1))) (fun _ hk => hk.2) (.int .i64 ((rd_T111 l1 x16_1).f2))) (fun _ hk => trivial)⟩
   have n1_ : Aside0 ((((w15.setCell ⟨gb77, 0, none⟩ (.int .i64 ((rd_T111 l1 x16_1).f0))).setCell ⟨gb77, 1, none⟩ (.int .i64 ((rd_T111 l1 x16_1).f1))).setCell ⟨gb77, 2, none⟩ (.int .i64 ((rd_T111 l1 x16_1).f2))).heap[gb78]? = some (.cells #[.int .i64 a0_0, .slice A0_1 l0_1.length c0_1] 25 (0, 0))) := ⟨by refine blk_far ?_ NB78_77.out _; refine blk_far ?_ NB78_77.out _; refine blk_far ?_ NB78_77.out _; exact BK78.out⟩
   have n2_ : Aside0 ((((w15.setCell ⟨gb77, 0, none⟩ (.int .i64 ((rd_T111 l1 x16_1).f0))).setCell ⟨gb77, 1, none⟩ (.int .i64 ((rd_T111 l1 x16_1).f1))).setCell ⟨gb77, 2, none⟩ (.int .i64 ((rd_T111 l1 x16_1).f2))).heap[gb77]? = some (.cells #[.int .i64 ((rd_T111 l1 x16_1).f0), .int .i64 ((rd_T111 l1 x16_1).f1), .int .i64 ((rd_T111 l1 x16_1).f2)] 111 (0, 0))) := ⟨by refine blk_put (cs := #[.int .i64 ((rd_T111 l1 x16_1).f0), .int .i64 ((rd_T111 l1 x16_1).f1), .int .i64 0]) ?_ 2 _ rfl; refine blk_put (cs := #[.int .i64 ((rd_T111 l1 x16_1).f0), .int .i64 0, .int .i64 0]) ?_ 1 _ rfl; refine blk_put (cs := #[.int .i64 0, .int .i64 0, .int .i64 0]) ?_ 0 _ rfl; exact BK77.out⟩
   have n3_ : Aside0 (Below w.heap.size w (((w15.setCell ⟨gb77, 0, none⟩ (.int .i64 ((rd_T111 l1 x16_1).f0))).setCell ⟨gb77, 1, none⟩ (.int .i64 ((rd_T111 l1 x16_1).f1))).setCell ⟨gb77, 2, none⟩ (.int .i64 ((rd_T111 l1 x16_1).f2)))) := ⟨by repeat ((with_reducible first | exact HB.out | refine below_set ?_ GE77.out))⟩
   (try clear HO_7)
   (try clear BK78)
   (try clear BK77)
   (try clear HB)
   generalize (((w15.setCell ⟨gb77, 0, none⟩ (.int .i64 ((rd_T111 l1 x16_1).f0))).setCell ⟨gb77, 1, none⟩ (.int .i64 ((rd_T111 l1 x16_1).f1))).setCell ⟨gb77, 2, none⟩ (.int .i64 ((rd_T111 l1 x16_1).f2))) = w18 at n0_ n1_ n2_ n3_ ⊢
   have HO_7 := n0_
   have BK78 := n1_
   have BK77 := n2_
   have HB := n3_
   clear n0_ n1_ n2_ n3_
   replace HO_7 := Z.k (Kd.R_drew HO_7.out)
   replace BK78 := Z.k (blk_drew BK78.out)
   replace BK77 := Z.k (blk_drew BK77.out)
   replace HB := Z.k (below_drew1 HB.out)
   have p86 : 0 ≤ (((rd_T111 l1 x16_1).f1) : Int) := Z.od
   have q86 : ((rd_T111 l1 x16_1).f1) < (l0_1.length : Int) := Z.od
   obtain ⟨ad86, rfl, hx86_0⟩ := Kd.at_int HR0_1.out ((rd_T111 l1 x16_1).f1) p86 q86
   have hw86_0 := hx86_0
   replace hx86_0 := Z.up HB.out hx86_0
   replace p86 := eq_true p86
   replace q86 := eq_true q86
   refine start_ (n := 16) (S := fun w' => w'.cell? ⟨gb78, 0, none⟩ = some (.int .i64 a0_0) ∧ w'.cell? ⟨gb78, 1, none⟩ = some (.slice (some ad86) l0_1.length c0_1) ∧ w'.cell? ⟨gb77, 0, none⟩ = some (.int .i64 ((rd_T111 l1 x16_1).f0)) ∧ w'.cell? ⟨gb77, 1, none⟩ = some (.int .i64 ((rd_T111 l1 x16_1).f1)) ∧ w'.cell? ⟨gb77, 2, none⟩ = some (.int .i64 ((rd_T111 l1 x16_1).f2)) ∧ w'.cell? (ad86.add (((rd_T111 l1 x16_1).f1)).toNat) = some (.int .i64 (rd l0_1 ((rd_T111 l1 x16_1).f1)))) (ds := []) (Z.mb 16 0) (by kernel_rfl) rfl rfl ⟨Z.b BK78 0, Z.b BK78 1, Z.b BK77 0, Z.b BK77 1, Z.b BK77 2, (Z.up HB.out hw86_0 :)⟩ (fun hHeld => ?_); refine with_tabW impl_consents.tab6 impl_consents.bits6 (fun HT_ HW_ => ?_)
   generalize w18.drew = w19 at HO_7 BK78 BK77 HB hx86_0 hHeld ⊢
   refine Z.pv 0 23 16 1 HT_.out ?_
   refine Z.pv 1 24 16 3 HT_.out ?_
   refine Z.pv 3 26 16 11 HT_.out ?_
   refine Z.pv 7 30 16 139 HT_.out ?_
   refine Z.pv 10 33 16 1163 HT_.out ?_
   refine Z.t6 2 25 16 1167 HT_.out HW_.out hHeld ?_
   refine Z.t6 4 27 16 1183 HT_.out HW_.out hHeld ?_
   refine Z.pv 5 28 16 1215 HT_.out ?_
   refine Z.t6 6 29 16 1279 HT_.out HW_.out hHeld ?_
   refine Z.pv 8 31 16 1535 HT_.out ?_
   refine Z.t6 11 34 16 3583 HT_.out HW_.out hHeld ?_
   refine one_ (i := 9) (N := some 32) (Z.mb 16 4095) rfl rfl (one_of HT_.out (by kernel_rfl)) (by decide) (fun K hK => ?_)
   refine goes_ Try.func116 (by kernel_rfl) rfl #[.int .i64 (Go.bits .and .i64 (rd l0_1 ((rd_T111 l1 x16_1).f1)) a2)] (by rfl) rfl rfl Z.ar ?_
   with_reducible refine (impl_headsOf.calls (Go.bits .and .i64 (rd l0_1 ((rd_T111 l1 x16_1).f1)) a2) t97 _ A13.out).mono ?_
   rintro e w' ⟨rfl, ⟨nd, rfl⟩⟩
   refine ⟨_, rfl, ?_⟩
   refine hK.out _ _ ⟨Z.b BK78 0, Z.b BK78 1, Z.b BK77 0, Z.b BK77 1, Z.b BK77 2, (Z.up HB.out hw86_0 :)⟩ (fun hHeld => ?_)
   clear hK K
   refine Z.nm ?_
   refine Z.pv 12 35 16 8191 HT_.out ?_
   refine one_ (i := 13) (N := some 36) (Z.mb 16 16383) rfl rfl (one_of HT_.out (by kernel_rfl)) (by decide) (fun K hK => ?_)
   refine value_ (w1 := ?_) (v := ?_) (by rfl) rfl ?_ ?_
   rotate_left 2
   ·go_simp
    constructor
    ·rfl
    ·rfl
   refine hK.out _ _ ⟨(blk_cell (blk_alloc BK78.out _) 0).trans rfl, (blk_cell (blk_alloc BK78.out _) 1).trans rfl, (blk_cell (blk_alloc BK77.out _) 0).trans rfl, (blk_cell (blk_alloc BK77.out _) 1).trans rfl, (blk_cell (blk_alloc BK77.out _) 2).trans rfl, (World.cell?_alloc_lt _ _ _ (World.block_lt_of_cell? _ _ ((Z.up HB.out hw86_0 :)))).trans ((Z.up HB.out hw86_0 :))⟩ (fun hHeld => ?_)
   clear hK K
   refine Z.nm ?_
   refine one_ (i := 14) (N := some 37) (Z.mb 16 32767) rfl rfl (one_of HT_.out (by kernel_rfl)) (by decide) (fun K hK => ?_)
   refine Kd.R_append_step Kd.bool (w0 := w) w.heap.size (by rfl) (.tmp 23) (.tmp 36) 113 4 (.bool false) 1 rfl Try.underlying113 info4 rfl (by decide) (by omega) u7 x7_1 (decide (t97 ≥ ((rd_T111 l1 x16_1).f2))) [.bool (decide (t97 ≥ ((rd_T111 l1 x16_1).f2)))] (fun _ => True) (fun _ => False) rfl rfl ?aP (fun _ hk => hk.elim) ?aF ?aO ?aB ?aS ?aL ?_
   (case aP => exact rfl)
   (case aB => exact (by repeat ((with_reducible first | exact HB.out | apply pw_below_drewN))))
   (case aF => exact (fun _ _ => trivial))
   (case aO => exact (by (with_reducible repeat (apply Kd.R_drewN)); exact HO_7.out))
   (case aS => exact (below_size (by repeat ((with_reducible first | exact HB.out | apply pw_below_drewN)))))
   (case aL => have := LMc14.out; omega)
   intro v201 w20 ho hb hg hat
   rw [← Ny91.out] at ho
   replace BK78 := Z.k (blk_grown (g := gb78) (o := .cells #[.int .i64 a0_0, .slice (some ad86) l0_1.length c0_1] 25 (0, 0)) (Z.bk BK78.out) hg (Kd.R_ne HO_7.out BK78.out (by decide)))
   replace BK77 := Z.k (blk_grown (g := gb77) (o := .cells #[.int .i64 ((rd_T111 l1 x16_1).f0), .int .i64 ((rd_T111 l1 x16_1).f1), .int .i64 ((rd_T111 l1 x16_1).f2)] 111 (0, 0)) (Z.bk BK77.out) hg (Kd.R_ne HO_7.out BK77.out (by decide)))
   replace HB := Z.k hb
   have HO202 := Z.k ho
   clear HO_7
   clear ho hb hg hat
   refine hK.out _ _ ⟨Z.b BK78 0, Z.b BK78 1, Z.b BK77 0, Z.b BK77 1, Z.b BK77 2, (Z.up HB.out hw86_0 :)⟩ (fun hHeld => ?_)
   clear hK K
   refine Z.nm ?_
   refine Z.pv 15 7 16 65535 HT_.out ?_
   refine done_ (done_of HT_.out (by kernel_rfl)) ?_
   try go_wp2
   go_roundg k1
   case measure => have := HK1.out; omega
   case rel => exact ⟨(y91), (wrap64 (x16_1 + 1)), (by rfl), H', ⟨by have := HK1.out; omega⟩, ⟨by exact HO202.out⟩, ⟨by exact BK78.out⟩, ⟨HB.out⟩⟩
  rw [if_neg c10] at H
  have c10b0 : (((rd_T111 l1 x16_1).f0) == 0) = false := beq_eq_false_iff_ne.mpr c10
  have c10b1 : (((rd_T111 l1 x16_1).f0) != 0) = true := bne_iff_ne.mpr c10
  obtain ⟨ji21, hji21⟩ : ∃ j_ : Int, (wrap64 ((x7_1.length : Int) - 2)) = j_ := ⟨_, rfl⟩
  replace H : (if 0 ≤ (ji21) then (if (ji21) < (x7_1.length : Int) then (if 0 ≤ (wrap64 ((x7_1.length : Int) - 1)) then (if (wrap64 ((x7_1.length : Int) - 1)) < (x7_1.length : Int) then (if rdOf false x7_1 (ji21) = true then (if ((rd_T111 l1 x16_1).f0) = 2 then (if (ji21) ≤ (x7_1.length : Int) then ((some (x7_1.take ((ji21) : Int).toNat : List Bool)).bind fun y82 => (if y82.length < 140737488355328 then (impl_consents.l0 k1 a2 (y82 ++ [true]) l1 (l1.length : Int) (wrap64 (x16_1 + 1)) a0_0 l0_1) else (none))) else (none)) else (if (ji21) ≤ (x7_1.length : Int) then ((some (x7_1.take ((ji21) : Int).toNat : List Bool)).bind fun y83 => (if y83.length < 140737488355328 then (impl_consents.l0 k1 a2 (y83 ++ [rdOf false x7_1 (wrap64 ((x7_1.length : Int) - 1))]) l1 (l1.length : Int) (wrap64 (x16_1 + 1)) a0_0 l0_1) else (none))) else (none))) else (if ((rd_T111 l1 x16_1).f0) = 2 then (if (ji21) ≤ (x7_1.length : Int) then ((some (x7_1.take ((ji21) : Int).toNat : List Bool)).bind fun y84 => (if y84.length < 140737488355328 then (impl_consents.l0 k1 a2 (y84 ++ [rdOf false x7_1 (wrap64 ((x7_1.length : Int) - 1))]) l1 (l1.length : Int) (wrap64 (x16_1 + 1)) a0_0 l0_1) else (none))) else (none)) else (if (ji21) ≤ (x7_1.length : Int) then ((some (x7_1.take ((ji21) : Int).toNat : List Bool)).bind fun y85 => (if y85.length < 140737488355328 then (impl_consents.l0 k1 a2 (y85 ++ [false]) l1 (l1.length : Int) (wrap64 (x16_1 + 1)) a0_0 l0_1) else (none))) else (none)))) else (none)) else (none)) else (none)) else (none)) = some r := by (rw [hji21] at H; exact H)
  have hji21w : (IntKind.i64.wrap ((x7_1.length : Int) - 2)) = ji21 := (i64_w _).trans hji21
  obtain ⟨c22b0, H⟩ := Z.fd H
  obtain ⟨c23b0, H⟩ := Z.fd H
  obtain ⟨ji24, hji24⟩ : ∃ j_ : Int, (wrap64 ((x7_1.length : Int) - 1)) = j_ := ⟨_, rfl⟩
  replace H : (if 0 ≤ (ji24) then (if (ji24) < (x7_1.length : Int) then (if rdOf false x7_1 (ji21) = true then (if ((rd_T111 l1 x16_1).f0) = 2 then (if (ji21) ≤ (x7_1.length : Int) then ((some (x7_1.take ((ji21) : Int).toNat : List Bool)).bind fun y82 => (if y82.length < 140737488355328 then (impl_consents.l0 k1 a2 (y82 ++ [true]) l1 (l1.length : Int) (wrap64 (x16_1 + 1)) a0_0 l0_1) else (none))) else (none)) else (if (ji21) ≤ (x7_1.length : Int) then ((some (x7_1.take ((ji21) : Int).toNat : List Bool)).bind fun y83 => (if y83.length < 140737488355328 then (impl_consents.l0 k1 a2 (y83 ++ [rdOf false x7_1 (ji24)]) l1 (l1.length : Int) (wrap64 (x16_1 + 1)) a0_0 l0_1) else (none))) else (none))) else (if ((rd_T111 l1 x16_1).f0) = 2 then (if (ji21) ≤ (x7_1.length : Int) then ((some (x7_1.take ((ji21) : Int).toNat : List Bool)).bind fun y84 => (if y84.length < 140737488355328 then (impl_consents.l0 k1 a2 (y84 ++ [rdOf false x7_1 (ji24)]) l1 (l1.length : Int) (wrap64 (x16_1 + 1)) a0_0 l0_1) else (none))) else (none)) else (if (ji21) ≤ (x7_1.length : Int) then ((some (x7_1.take ((ji21) : Int).toNat : List Bool)).bind fun y85 => (if y85.length < 140737488355328 then (impl_consents.l0 k1 a2 (y85 ++ [false]) l1 (l1.length : Int) (wrap64 (x16_1 + 1)) a0_0 l0_1) else (none))) else (none)))) else (none)) else (none)) = some r := by (rw [hji24] at H; exact H)
  have hji24w : (IntKind.i64.wrap ((x7_1.length : Int) - 1)) = ji24 := (i64_w _).trans hji24
  obtain ⟨c25b0, H⟩ := Z.fd H
  obtain ⟨c26b0, H⟩ := Z.fd H
  obtain ⟨bq27, hbq27⟩ : ∃ b_ : Bool, b_ = (rdOf false x7_1 (ji21)) := ⟨_, rfl⟩
  replace H : (if bq27 = true then (if ((rd_T111 l1 x16_1).f0) = 2 then (if (ji21) ≤ (x7_1.length : Int) then ((some (x7_1.take ((ji21) : Int).toNat : List Bool)).bind fun y82 => (if y82.length < 140737488355328 then (impl_consents.l0 k1 a2 (y82 ++ [true]) l1 (l1.length : Int) (wrap64 (x16_1 + 1)) a0_0 l0_1) else (none))) else (none)) else (if (ji21) ≤ (x7_1.length : Int) then ((some (x7_1.take ((ji21) : Int).toNat : List Bool)).bind fun y83 => (if y83.length < 140737488355328 then (impl_consents.l0 k1 a2 (y83 ++ [rdOf false x7_1 (ji24)]) l1 (l1.length : Int) (wrap64 (x16_1 + 1)) a0_0 l0_1) else (none))) else (none))) else (if ((rd_T111 l1 x16_1).f0) = 2 then (if (ji21) ≤ (x7_1.length : Int) then ((some (x7_1.take ((ji21) : Int).toNat : List Bool)).bind fun y84 => (if y84.length < 140737488355328 then (impl_consents.l0 k1 a2 (y84 ++ [rdOf false x7_1 (ji24)]) l1 (l1.length : Int) (wrap64 (x16_1 + 1)) a0_0 l0_1) else (none))) else (none)) else (if (ji21) ≤ (x7_1.length : Int) then ((some (x7_1.take ((ji21) : Int).toNat : List Bool)).bind fun y85 => (if y85.length < 140737488355328 then (impl_consents.l0 k1 a2 (y85 ++ [false]) l1 (l1.length : Int) (wrap64 (x16_1 + 1)) a0_0 l0_1) else (none))) else (none)))) = some r := by rw [← hbq27] at H; exact H
  have Nbq27 := Z.k hbq27
  clear hbq27
  by_cases c28 : bq27 = true
  ·subst c28
   rw [if_pos rfl] at H
   by_cases c29 : ((rd_T111 l1 x16_1).f0) = 2
   ·rw [if_pos c29] at H
    have c29b0 : (((rd_T111 l1 x16_1).f0) == 2) = true := beq_iff_eq.mpr c29
    have c29b1 : (((rd_T111 l1 x16_1).f0) != 2) = false := bne_eq_false_iff_eq.mpr c29
    clear c29
    obtain ⟨c30, H⟩ := Z.ifp H
    have c30b0 := eq_true c30
    have c30b1 : decide ((ji21) ≤ (x7_1.length : Int)) = true := decide_eq_true c30
    clear c30
    obtain ⟨y82, hy82⟩ : ∃ y_ : List Bool, y_ = (x7_1.take ((ji21) : Int).toNat) := ⟨_, rfl⟩
    replace H : (if y82.length < 140737488355328 then (impl_consents.l0 k1 a2 (y82 ++ [true]) l1 (l1.length : Int) (wrap64 (x16_1 + 1)) a0_0 l0_1) else (none)) = some r := by (have H2_ := (Option.bind_some _ _).symm.trans H; rw [hy82]; with_reducible exact H2_)
    have Ny82 := Z.k hy82
    clear hy82
    obtain ⟨c31, H⟩ := Z.ifp H
    have LMc31 := Z.k c31
    clear c31
    obtain ⟨y92, hy92⟩ : ∃ y_ : List Bool, y_ = (y82 ++ [true]) := ⟨_, rfl⟩
    replace H : (impl_consents.l0 k1 a2 y92 l1 (l1.length : Int) (wrap64 (x16_1 + 1)) a0_0 l0_1) = some r := by (rw [hy92]; with_reducible exact H)
    have Ny92 := Z.k hy92
    clear hy92
    have H' := Z.k H
    clear H
    have p79 : 0 ≤ (x16_1 : Int) := Z.od
    have q79 : x16_1 < (l1.length : Int) := Z.od
    obtain ⟨ad79, rfl, hx79_0, hx79_1, hx79_2⟩ := at_T111 HR1.out x16_1 p79 q79
    replace hx79_0 := Z.up HB.out hx79_0
    replace hx79_1 := Z.up HB.out hx79_1
    replace hx79_2 := Z.up HB.out hx79_2
    replace p79 := eq_true p79
    replace q79 := eq_true q79
    try go_wp2_with (((with_reducible refine gate_dst (N := 9) rfl ?_); refine Z.bz #[.int .i64 0, .int .i64 0, .int .i64 0] 111 HB GE78 ?_; clear HB; intro gb77 w32 BK77 GE77 HB hg hb; have GW77 := GE77; replace HO_7 := Z.rb HO_7 hb; have NB78_77 := Z.nl hg BK78; have NB77_78 := Z.ng hg BK78; replace BK78 := Z.bb BK78 hb; clear hb hg; have hnb33 := NB77_78.out; have hnc33 := NB78_77.out; have hcz34 := Z.c3 BK77.out))
    have n0_ : Aside0 (Kd.R Kd.bool 4 (((w32.setCell ⟨gb77, 0, none⟩ (.int .i64 ((rd_T111 l1 x16_1).f0))).setCell ⟨gb77, 1, none⟩ (.int .i64 ((rd_T111 l1 x16_1).f1))).setCell ⟨gb77, 2, none⟩ (.int .i64 ((rd_T111 l1 x16_1).f2))) w.heap.size (fun _ => True) u7 x7_1) := ⟨by exact Kd.R_mono (Kd.R_far (p := ⟨gb77, 2, none⟩) (Kd.R_far (p := ⟨gb77, 1, none⟩) (Kd.R_far (p := ⟨gb77, 0, none⟩) (Kd.R_types HO_7.out BK77.out (by decide)) (fun _ hk => hk.2) (.int .i64 ((rd_T111 l1 x16_1).f0))) (fun _ hk => hk.2) (.int .i64 ((rd_T111 l1 x16_1).f1))) (fun _ hk => hk.2) (.int .i64 ((rd_T111 l1 x16_1).f2))) (fun _ hk => trivial)⟩
    have n1_ : Aside0 ((((w32.setCell ⟨gb77, 0, none⟩ (.int .i64 ((rd_T111 l1 x16_1).f0))).setCell ⟨gb77, 1, none⟩ (.int .i64 ((rd_T111 l1 x16_1).f1))).setCell ⟨gb77, 2, none⟩ (.int .i64 ((rd_T111 l1 x16_1).f2))).heap[gb78]? = some (.cells #[.int .i64 a0_0, .slice A0_1 l0_1.length c0_1] 25 (0, 0))) := ⟨by refine blk_far ?_ NB78_77.out _; refine blk_far ?_ NB78_77.out _; refine blk_far ?_ NB78_77.out _; exact BK78.out⟩
    have n2_ : Aside0 ((((w32.setCell ⟨gb77, 0, none⟩ (.int .i64 ((rd_T111 l1 x16_1).f0))).setCell ⟨gb77, 1, none⟩ (.int .i64 ((rd_T111 l1 x16_1).f1))).setCell ⟨gb77, 2, none⟩ (.int .i64 ((rd_T111 l1 x16_1).f2))).heap[gb77]? = some (.cells #[.int .i64 ((rd_T111 l1 x16_1).f0), .int .i64 ((rd_T111 l1 x16_1).f1), .int .i64 ((rd_T111 l1 x16_1).f2)] 111 (0, 0))) := ⟨by refine blk_put (cs := #[.int .i64 ((rd_T111 l1 x16_1).f0), .int .i64 ((rd_T111 l1 x16_1).f1), .int .i64 0]) ?_ 2 _ rfl; refine blk_put (cs := #[.int .i64 ((rd_T111 l1 x16_1).f0), .int .i64 0, .int .i64 0]) ?_ 1 _ rfl; refine blk_put (cs := #[.int .i64 0, .int .i64 0, .int .i64 0]) ?_ 0 _ rfl; exact BK77.out⟩
    have n3_ : Aside0 (Below w.heap.size w (((w32.setCell ⟨gb77, 0, none⟩ (.int .i64 ((rd_T111 l1 x16_1).f0))).setCell ⟨gb77, 1, none⟩ (.int .i64 ((rd_T111 l1 x16_1).f1))).setCell ⟨gb77, 2, none⟩ (.int .i64 ((rd_T111 l1 x16_1).f2)))) := ⟨by repeat ((with_reducible first | exact HB.out | refine below_set ?_ GE77.out))⟩
    (try clear HO_7)
    (try clear BK78)
    (try clear BK77)
    (try clear HB)
    generalize (((w32.setCell ⟨gb77, 0, none⟩ (.int .i64 ((rd_T111 l1 x16_1).f0))).setCell ⟨gb77, 1, none⟩ (.int .i64 ((rd_T111 l1 x16_1).f1))).setCell ⟨gb77, 2, none⟩ (.int .i64 ((rd_T111 l1 x16_1).f2))) = w35 at n0_ n1_ n2_ n3_ ⊢
    have HO_7 := n0_
    have BK78 := n1_
    have BK77 := n2_
    have HB := n3_
    clear n0_ n1_ n2_ n3_
    replace HO_7 := Z.k (Kd.R_drew HO_7.out)
    replace BK78 := Z.k (blk_drew BK78.out)
    replace BK77 := Z.k (blk_drew BK77.out)
    replace HB := Z.k (below_drew1 HB.out)
    obtain ⟨Ao37, co37, eo37⟩ := Kd.R_slice HO_7.out
    (subst eo37)
    have p80 : 0 ≤ ((ji21) : Int) := Z.od
    have q80 : (ji21) < (x7_1.length : Int) := Z.od
    obtain ⟨ad80, e80, hx80_0⟩ := Kd.at_bool (Kd.R_reads' HO_7.out).2.2 (ji21) p80 q80
    (try rw [← Nbq27.out] at hx80_0)
    cases e80
    replace p80 := eq_true p80
    replace q80 := eq_true q80
    have p81 : 0 ≤ ((ji24) : Int) := Z.od
    have q81 : (ji24) < (x7_1.length : Int) := Z.od
    obtain ⟨ad81, e81, hx81_0⟩ := Kd.at_bool (Kd.R_reads' HO_7.out).2.2 (ji24) p81 q81
    obtain rfl : ad80 = ad81 := (by injection e81)
    replace p81 := eq_true p81
    replace q81 := eq_true q81
    refine start_ (n := 14) (S := fun w' => w'.cell? (ad80.add ((ji21)).toNat) = some (.bool true) ∧ w'.cell? (ad80.add ((ji24)).toNat) = some (.bool (rdOf false x7_1 (ji24)))) (ds := []) (Z.mb 14 0) (by kernel_rfl) rfl rfl ⟨hx80_0, hx81_0⟩ (fun hHeld => ?_); refine with_tabW impl_consents.tab7 impl_consents.bits7 (fun HT_ HW_ => ?_)
    generalize w35.drew = w36 at HO_7 BK78 BK77 HB hx80_0 hx81_0 hHeld ⊢
    refine Z.pv 0 38 14 1 HT_.out ?_
    refine Z.pv 1 39 14 3 HT_.out ?_
    refine Z.pv 2 40 14 7 HT_.out ?_
    refine Z.pv 3 41 14 15 HT_.out ?_
    refine Z.pv 4 42 14 31 HT_.out ?_
    refine Z.pv 6 44 14 95 HT_.out ?_
    refine Z.pv 7 45 14 223 HT_.out ?_
    refine Z.pv 8 46 14 479 HT_.out ?_
    refine Z.pv 9 47 14 991 HT_.out ?_
    refine Z.pv 10 48 14 2015 HT_.out ?_
    refine Z.t2 5 43 14 2047 HT_.out HW_.out hHeld ?_
    refine Z.pv 12 10 14 6143 HT_.out ?_
    refine Z.t2 11 49 14 8191 HT_.out HW_.out hHeld ?_
    refine Z.pv 13 11 14 16383 HT_.out ?_
    refine done_ (done_of HT_.out (by kernel_rfl)) ?_
    have hcz38 := Z.c3 BK77.out
    have q39 : ((ji21) : Int) ≤ ((x7_1.length : Int) : Int) := Z.od
    obtain ⟨i039, hi039, _, hsz39, _⟩ := info_parts info4
    have hcut39 := cut_to (P := Try.prog) 113 4 .i64 Try.underlying113 hi039 (some ad80) x7_1.length co37 (ji21) (Z.od) q39 (Kd.R_reads' HO_7.out).2.1
    have hr39 := Kd.R_take (m := ((ji21) : Int).toNat) HO_7.out (by omega)
    have hy39 : y82.length = ((ji21) : Int).toNat := (by rw [Ny82.out, List.length_take]; omega)
    rw [← Ny82.out] at hr39
    rw [← hy39] at hr39 hcut39
    clear hy39 hi039 hsz39 HO_7
    have HO98 := Z.k hr39
    clear hr39
    replace q39 := eq_true q39
    try go_wp2_with (((with_reducible refine gate_builtin (b := .append) (xs := #[.tmp 65, .tmp 67]) rfl ?_); at_builtin; refine Kd.R_append Kd.bool (w0 := w) w.heap.size rfl (.tmp 65) (.tmp 67) 113 4 (.bool false) 1 rfl Try.underlying113 info4 rfl (by decide) (by omega) (.slice (some ad80) y82.length co37) y82 true [.bool true] (fun _ => True) (fun _ => False) rfl rfl ?aP (fun _ hk => hk.elim) ?aF ?aO ?aB ?aS ?aL ?_; (case aP => exact rfl); (case aB => exact HB.out); (case aF => exact (fun _ _ => trivial)); (case aO => exact HO98.out); (case aS => exact (below_size HB.out)); (case aL => have := LMc31.out; omega); intro v209 w40 ho hb hg hat; rw [← Ny92.out] at ho; replace BK78 := Z.k (blk_grown (g := gb78) (o := .cells #[.int .i64 a0_0, .slice A0_1 l0_1.length c0_1] 25 (0, 0)) (Z.bk BK78.out) hg (Kd.R_ne HO98.out BK78.out (by decide))); replace BK77 := Z.k (blk_grown (g := gb77) (o := .cells #[.int .i64 ((rd_T111 l1 x16_1).f0), .int .i64 ((rd_T111 l1 x16_1).f1), .int .i64 ((rd_T111 l1 x16_1).f2)] 111 (0, 0)) (Z.bk BK77.out) hg (Kd.R_ne HO98.out BK77.out (by decide))); replace HB := Z.k hb; have HO210 := Z.k ho; clear HO98; clear ho hb hg hat))
    go_roundg k1
    case measure => have := HK1.out; omega
    case rel => exact ⟨(y92), (wrap64 (x16_1 + 1)), (by rfl), H', ⟨by have := HK1.out; omega⟩, ⟨by exact HO210.out⟩, ⟨by exact BK78.out⟩, ⟨HB.out⟩⟩
   rw [if_neg c29] at H
   have c29b0 : (((rd_T111 l1 x16_1).f0) == 2) = false := beq_eq_false_iff_ne.mpr c29
   have c29b1 : (((rd_T111 l1 x16_1).f0) != 2) = true := bne_iff_ne.mpr c29
   obtain ⟨c41, H⟩ := Z.ifp H
   have c41b0 := eq_true c41
   have c41b1 : decide ((ji21) ≤ (x7_1.length : Int)) = true := decide_eq_true c41
   clear c41
   obtain ⟨y83, hy83⟩ : ∃ y_ : List Bool, y_ = (x7_1.take ((ji21) : Int).toNat) := ⟨_, rfl⟩
   replace H : (if y83.length < 140737488355328 then (impl_consents.l0 k1 a2 (y83 ++ [rdOf false x7_1 (ji24)]) l1 (l1.length : Int) (wrap64 (x16_1 + 1)) a0_0 l0_1) else (none)) = some r := by (have H2_ := (Option.bind_some _ _).symm.trans H; rw [hy83]; with_reducible exact H2_)
   have Ny83 := Z.k hy83
   clear hy83
   obtain ⟨c42, H⟩ := Z.ifp H
   have LMc42 := Z.k c42
   clear c42
   obtain ⟨y93, hy93⟩ : ∃ y_ : List Bool, y_ = (y83 ++ [rdOf false x7_1 (ji24)]) := ⟨_, rfl⟩
   replace H : (impl_consents.l0 k1 a2 y93 l1 (l1.length : Int) (wrap64 (x16_1 + 1)) a0_0 l0_1) = some r := by (rw [hy93]; with_reducible exact H)
   have Ny93 := Z.k hy93
   clear hy93
   have H' := Z.k H
   clear H
   have p79 : 0 ≤ (x16_1 : Int) := Z.od
   have q79 : x16_1 < (l1.length : Int) := Z.od
   obtain ⟨ad79, rfl, hx79_0, hx79_1, hx79_2⟩ := at_T111 HR1.out x16_1 p79 q79
   replace hx79_0 := Z.up HB.out hx79_0
   replace hx79_1 := Z.up HB.out hx79_1
   replace hx79_2 := Z.up HB.out hx79_2
   replace p79 := eq_true p79
   replace q79 := eq_true q79
   try go_wp2_with (((with_reducible refine gate_dst (N := 9) rfl ?_); refine Z.bz #[.int .i64 0, .int .i64 0, .int .i64 0] 111 HB GE78 ?_; clear HB; intro gb77 w43 BK77 GE77 HB hg hb; have GW77 := GE77; replace HO_7 := Z.rb HO_7 hb; have NB78_77 := Z.nl hg BK78; have NB77_78 := Z.ng hg BK78; replace BK78 := Z.bb BK78 hb; clear hb hg; have hnb44 := NB77_78.out; have hnc44 := NB78_77.out; have hcz45 := Z.c3 BK77.out))
   have n0_ : Aside0 (Kd.R Kd.bool 4 (((w43.setCell ⟨gb77, 0, none⟩ (.int .i64 ((rd_T111 l1 x16_1).f0))).setCell ⟨gb77, 1, none⟩ (.int .i64 ((rd_T111 l1 x16_1).f1))).setCell ⟨gb77, 2, none⟩ (.int .i64 ((rd_T111 l1 x16_1).f2))) w.heap.size (fun _ => True) u7 x7_1) := ⟨by exact Kd.R_mono (Kd.R_far (p := ⟨gb77, 2, none⟩) (Kd.R_far (p := ⟨gb77, 1, none⟩) (Kd.R_far (p := ⟨gb77, 0, none⟩) (Kd.R_types HO_7.out BK77.out (by decide)) (fun _ hk => hk.2) (.int .i64 ((rd_T111 l1 x16_1).f0))) (fun _ hk => hk.2) (.int .i64 ((rd_T111 l1 x16_1).f1))) (fun _ hk => hk.2) (.int .i64 ((rd_T111 l1 x16_1).f2))) (fun _ hk => trivial)⟩
   have n1_ : Aside0 ((((w43.setCell ⟨gb77, 0, none⟩ (.int .i64 ((rd_T111 l1 x16_1).f0))).setCell ⟨gb77, 1, none⟩ (.int .i64 ((rd_T111 l1 x16_1).f1))).setCell ⟨gb77, 2, none⟩ (.int .i64 ((rd_T111 l1 x16_1).f2))).heap[gb78]? = some (.cells #[.int .i64 a0_0, .slice A0_1 l0_1.length c0_1] 25 (0, 0))) := ⟨by refine blk_far ?_ NB78_77.out _; refine blk_far ?_ NB78_77.out _; refine blk_far ?_ NB78_77.out _; exact BK78.out⟩
   have n2_ : Aside0 ((((w43.setCell ⟨gb77, 0, none⟩ (.int .i64 ((rd_T111 l1 x16_1).f0))).setCell ⟨gb77, 1, none⟩ (.int .i64 ((rd_T111 l1 x16_1).f1))).setCell ⟨gb77, 2, none⟩ (.int .i64 ((rd_T111 l1 x16_1).f2))).heap[gb77]? = some (.cells #[.int .i64 ((rd_T111 l1 x16_1).f0), .int .i64 ((rd_T111 l1 x16_1).f1), .int .i64 ((rd_T111 l1 x16_1).f2)] 111 (0, 0))) := ⟨by refine blk_put (cs := #[.int .i64 ((rd_T111 l1 x16_1).f0), .int .i64 ((rd_T111 l1 x16_1).f1), .int .i64 0]) ?_ 2 _ rfl; refine blk_put (cs := #[.int .i64 ((rd_T111 l1 x16_1).f0), .int .i64 0, .int .i64 0]) ?_ 1 _ rfl; refine blk_put (cs := #[.int .i64 0, .int .i64 0, .int .i64 0]) ?_ 0 _ rfl; exact BK77.out⟩
   have n3_ : Aside0 (Below w.heap.size w (((w43.setCell ⟨gb77, 0, none⟩ (.int .i64 ((rd_T111 l1 x16_1).f0))).setCell ⟨gb77, 1, none⟩ (.int .i64 ((rd_T111 l1 x16_1).f1))).setCell ⟨gb77, 2, none⟩ (.int .i64 ((rd_T111 l1 x16_1).f2)))) := ⟨by repeat ((with_reducible first | exact HB.out | refine below_set ?_ GE77.out))⟩
   (try clear HO_7)
   (try clear BK78)
   (try clear BK77)
   (try clear HB)
   generalize (((w43.setCell ⟨gb77, 0, none⟩ (.int .i64 ((rd_T111 l1 x16_1).f0))).setCell ⟨gb77, 1, none⟩ (.int .i64 ((rd_T111 l1 x16_1).f1))).setCell ⟨gb77, 2, none⟩ (.int .i64 ((rd_T111 l1 x16_1).f2))) = w46 at n0_ n1_ n2_ n3_ ⊢
   have HO_7 := n0_
   have BK78 := n1_
   have BK77 := n2_
   have HB := n3_
   clear n0_ n1_ n2_ n3_
   replace HO_7 := Z.k (Kd.R_drew HO_7.out)
   replace BK78 := Z.k (blk_drew BK78.out)
   replace BK77 := Z.k (blk_drew BK77.out)
   replace HB := Z.k (below_drew1 HB.out)
   obtain ⟨Ao48, co48, eo48⟩ := Kd.R_slice HO_7.out
   (subst eo48)
   have p80 : 0 ≤ ((ji21) : Int) := Z.od
   have q80 : (ji21) < (x7_1.length : Int) := Z.od
   obtain ⟨ad80, e80, hx80_0⟩ := Kd.at_bool (Kd.R_reads' HO_7.out).2.2 (ji21) p80 q80
   (try rw [← Nbq27.out] at hx80_0)
   cases e80
   replace p80 := eq_true p80
   replace q80 := eq_true q80
   have p81 : 0 ≤ ((ji24) : Int) := Z.od
   have q81 : (ji24) < (x7_1.length : Int) := Z.od
   obtain ⟨ad81, e81, hx81_0⟩ := Kd.at_bool (Kd.R_reads' HO_7.out).2.2 (ji24) p81 q81
   obtain rfl : ad80 = ad81 := (by injection e81)
   replace p81 := eq_true p81
   replace q81 := eq_true q81
   refine start_ (n := 14) (S := fun w' => w'.cell? (ad80.add ((ji21)).toNat) = some (.bool true) ∧ w'.cell? (ad80.add ((ji24)).toNat) = some (.bool (rdOf false x7_1 (ji24)))) (ds := []) (Z.mb 14 0) (by kernel_rfl) rfl rfl ⟨hx80_0, hx81_0⟩ (fun hHeld => ?_); refine with_tabW impl_consents.tab7 impl_consents.bits7 (fun HT_ HW_ => ?_)
   generalize w46.drew = w47 at HO_7 BK78 BK77 HB hx80_0 hx81_0 hHeld ⊢
   refine Z.pv 0 38 14 1 HT_.out ?_
   refine Z.pv 1 39 14 3 HT_.out ?_
   refine Z.pv 2 40 14 7 HT_.out ?_
   refine Z.pv 3 41 14 15 HT_.out ?_
   refine Z.pv 4 42 14 31 HT_.out ?_
   refine Z.pv 6 44 14 95 HT_.out ?_
   refine Z.pv 7 45 14 223 HT_.out ?_
   refine Z.pv 8 46 14 479 HT_.out ?_
   refine Z.pv 9 47 14 991 HT_.out ?_
   refine Z.pv 10 48 14 2015 HT_.out ?_
   refine Z.t2 5 43 14 2047 HT_.out HW_.out hHeld ?_
   refine Z.pv 12 10 14 6143 HT_.out ?_
   refine Z.t2 11 49 14 8191 HT_.out HW_.out hHeld ?_
   refine Z.pv 13 11 14 16383 HT_.out ?_
   refine done_ (done_of HT_.out (by kernel_rfl)) ?_
   have hcz49 := Z.c3 BK77.out
   have q50 : ((ji21) : Int) ≤ ((x7_1.length : Int) : Int) := Z.od
   obtain ⟨i050, hi050, _, hsz50, _⟩ := info_parts info4
   have hcut50 := cut_to (P := Try.prog) 113 4 .i64 Try.underlying113 hi050 (some ad80) x7_1.length co48 (ji21) (Z.od) q50 (Kd.R_reads' HO_7.out).2.1
   have hr50 := Kd.R_take (m := ((ji21) : Int).toNat) HO_7.out (by omega)
   have hy50 : y83.length = ((ji21) : Int).toNat := (by rw [Ny83.out, List.length_take]; omega)
   rw [← Ny83.out] at hr50
   rw [← hy50] at hr50 hcut50
   clear hy50 hi050 hsz50 HO_7
   have HO99 := Z.k hr50
   clear hr50
   replace q50 := eq_true q50
   try go_wp2_with (((with_reducible refine gate_builtin (b := .append) (xs := #[.tmp 65, .tmp 67]) rfl ?_); at_builtin; refine Kd.R_append Kd.bool (w0 := w) w.heap.size rfl (.tmp 65) (.tmp 67) 113 4 (.bool false) 1 rfl Try.underlying113 info4 rfl (by decide) (by omega) (.slice (some ad80) y83.length co48) y83 (rdOf false x7_1 (ji24)) [.bool (rdOf false x7_1 (ji24))] (fun _ => True) (fun _ => False) rfl rfl ?aP (fun _ hk => hk.elim) ?aF ?aO ?aB ?aS ?aL ?_; (case aP => exact rfl); (case aB => exact HB.out); (case aF => exact (fun _ _ => trivial)); (case aO => exact HO99.out); (case aS => exact (below_size HB.out)); (case aL => have := LMc42.out; omega); intro v215 w51 ho hb hg hat; rw [← Ny93.out] at ho; replace BK78 := Z.k (blk_grown (g := gb78) (o := .cells #[.int .i64 a0_0, .slice A0_1 l0_1.length c0_1] 25 (0, 0)) (Z.bk BK78.out) hg (Kd.R_ne HO99.out BK78.out (by decide))); replace BK77 := Z.k (blk_grown (g := gb77) (o := .cells #[.int .i64 ((rd_T111 l1 x16_1).f0), .int .i64 ((rd_T111 l1 x16_1).f1), .int .i64 ((rd_T111 l1 x16_1).f2)] 111 (0, 0)) (Z.bk BK77.out) hg (Kd.R_ne HO99.out BK77.out (by decide))); replace HB := Z.k hb; have HO216 := Z.k ho; clear HO99; clear ho hb hg hat))
   go_roundg k1
   case measure => have := HK1.out; omega
   case rel => exact ⟨(y93), (wrap64 (x16_1 + 1)), (by rfl), H', ⟨by have := HK1.out; omega⟩, ⟨by exact HO216.out⟩, ⟨by exact BK78.out⟩, ⟨HB.out⟩⟩
  replace c28 := Bool.eq_false_iff.mpr c28
  subst c28
  rw [if_neg (show ¬ (false = true) by decide)] at H
  by_cases c52 : ((rd_T111 l1 x16_1).f0) = 2
  ·rw [if_pos c52] at H
   have c52b0 : (((rd_T111 l1 x16_1).f0) == 2) = true := beq_iff_eq.mpr c52
   have c52b1 : (((rd_T111 l1 x16_1).f0) != 2) = false := bne_eq_false_iff_eq.mpr c52
   clear c52
   obtain ⟨c53, H⟩ := Z.ifp H
   have c53b0 := eq_true c53
   have c53b1 : decide ((ji21) ≤ (x7_1.length : Int)) = true := decide_eq_true c53
   clear c53
   obtain ⟨y84, hy84⟩ : ∃ y_ : List Bool, y_ = (x7_1.take ((ji21) : Int).toNat) := ⟨_, rfl⟩
   replace H : (if y84.length < 140737488355328 then (impl_consents.l0 k1 a2 (y84 ++ [rdOf false x7_1 (ji24)]) l1 (l1.length : Int) (wrap64 (x16_1 + 1)) a0_0 l0_1) else (none)) = some r := by (have H2_ := (Option.bind_some _ _).symm.trans H; rw [hy84]; with_reducible exact H2_)
   have Ny84 := Z.k hy84
   clear hy84
   obtain ⟨c54, H⟩ := Z.ifp H
   have LMc54 := Z.k c54
   clear c54
   obtain ⟨y94, hy94⟩ : ∃ y_ : List Bool, y_ = (y84 ++ [rdOf false x7_1 (ji24)]) := ⟨_, rfl⟩
   replace H : (impl_consents.l0 k1 a2 y94 l1 (l1.length : Int) (wrap64 (x16_1 + 1)) a0_0 l0_1) = some r := by (rw [hy94]; with_reducible exact H)
   have Ny94 := Z.k hy94
   clear hy94
   have H' := Z.k H
   clear H
   have p79 : 0 ≤ (x16_1 : Int) := Z.od
   have q79 : x16_1 < (l1.length : Int) := Z.od
   obtain ⟨ad79, rfl, hx79_0, hx79_1, hx79_2⟩ := at_T111 HR1.out x16_1 p79 q79
   replace hx79_0 := Z.up HB.out hx79_0
   replace hx79_1 := Z.up HB.out hx79_1
   replace hx79_2 := Z.up HB.out hx79_2
   replace p79 := eq_true p79
   replace q79 := eq_true q79
   try go_wp2_with (((with_reducible refine gate_dst (N := 9) rfl ?_); refine Z.bz #[.int .i64 0, .int .i64 0, .int .i64 0] 111 HB GE78 ?_; clear HB; intro gb77 w55 BK77 GE77 HB hg hb; have GW77 := GE77; replace HO_7 := Z.rb HO_7 hb; have NB78_77 := Z.nl hg BK78; have NB77_78 := Z.ng hg BK78; replace BK78 := Z.bb BK78 hb; clear hb hg; have hnb56 := NB77_78.out; have hnc56 := NB78_77.out; have hcz57 := Z.c3 BK77.out))
   have n0_ : Aside0 (Kd.R Kd.bool 4 (((w55.setCell ⟨gb77, 0, none⟩ (.int .i64 ((rd_T111 l1 x16_1).f0))).setCell ⟨gb77, 1, none⟩ (.int .i64 ((rd_T111 l1 x16_1).f1))).setCell ⟨gb77, 2, none⟩ (.int .i64 ((rd_T111 l1 x16_1).f2))) w.heap.size (fun _ => True) u7 x7_1) := ⟨by exact Kd.R_mono (Kd.R_far (p := ⟨gb77, 2, none⟩) (Kd.R_far (p := ⟨gb77, 1, none⟩) (Kd.R_far (p := ⟨gb77, 0, none⟩) (Kd.R_types HO_7.out BK77.out (by decide)) (fun _ hk => hk.2) (.int .i64 ((rd_T111 l1 x16_1).f0))) (fun _ hk => hk.2) (.int .i64 ((rd_T111 l1 x16_1).f1))) (fun _ hk => hk.2) (.int .i64 ((rd_T111 l1 x16_1).f2))) (fun _ hk => trivial)⟩
   have n1_ : Aside0 ((((w55.setCell ⟨gb77, 0, none⟩ (.int .i64 ((rd_T111 l1 x16_1).f0))).setCell ⟨gb77, 1, none⟩ (.int .i64 ((rd_T111 l1 x16_1).f1))).setCell ⟨gb77, 2, none⟩ (.int .i64 ((rd_T111 l1 x16_1).f2))).heap[gb78]? = some (.cells #[.int .i64 a0_0, .slice A0_1 l0_1.length c0_1] 25 (0, 0))) := ⟨by refine blk_far ?_ NB78_77.out _; refine blk_far ?_ NB78_77.out _; refine blk_far ?_ NB78_77.out _; exact BK78.out⟩
   have n2_ : Aside0 ((((w55.setCell ⟨gb77, 0, none⟩ (.int .i64 ((rd_T111 l1 x16_1).f0))).setCell ⟨gb77, 1, none⟩ (.int .i64 ((rd_T111 l1 x16_1).f1))).setCell ⟨gb77, 2, none⟩ (.int .i64 ((rd_T111 l1 x16_1).f2))).heap[gb77]? = some (.cells #[.int .i64 ((rd_T111 l1 x16_1).f0), .int .i64 ((rd_T111 l1 x16_1).f1), .int .i64 ((rd_T111 l1 x16_1).f2)] 111 (0, 0))) := ⟨by refine blk_put (cs := #[.int .i64 ((rd_T111 l1 x16_1).f0), .int .i64 ((rd_T111 l1 x16_1).f1), .int .i64 0]) ?_ 2 _ rfl; refine blk_put (cs := #[.int .i64 ((rd_T111 l1 x16_1).f0), .int .i64 0, .int .i64 0]) ?_ 1 _ rfl; refine blk_put (cs := #[.int .i64 0, .int .i64 0, .int .i64 0]) ?_ 0 _ rfl; exact BK77.out⟩
   have n3_ : Aside0 (Below w.heap.size w (((w55.setCell ⟨gb77, 0, none⟩ (.int .i64 ((rd_T111 l1 x16_1).f0))).setCell ⟨gb77, 1, none⟩ (.int .i64 ((rd_T111 l1 x16_1).f1))).setCell ⟨gb77, 2, none⟩ (.int .i64 ((rd_T111 l1 x16_1).f2)))) := ⟨by repeat ((with_reducible first | exact HB.out | refine below_set ?_ GE77.out))⟩
   (try clear HO_7)
   (try clear BK78)
   (try clear BK77)
   (try clear HB)
   generalize (((w55.setCell ⟨gb77, 0, none⟩ (.int .i64 ((rd_T111 l1 x16_1).f0))).setCell ⟨gb77, 1, none⟩ (.int .i64 ((rd_T111 l1 x16_1).f1))).setCell ⟨gb77, 2, none⟩ (.int .i64 ((rd_T111 l1 x16_1).f2))) = w58 at n0_ n1_ n2_ n3_ ⊢
   have HO_7 := n0_
   have BK78 := n1_
   have BK77 := n2_
   have HB := n3_
   clear n0_ n1_ n2_ n3_
   replace HO_7 := Z.k (Kd.R_drew HO_7.out)
   replace BK78 := Z.k (blk_drew BK78.out)
   replace BK77 := Z.k (blk_drew BK77.out)
   replace HB := Z.k (below_drew1 HB.out)
   obtain ⟨Ao60, co60, eo60⟩ := Kd.R_slice HO_7.out
   (subst eo60)
   have p80 : 0 ≤ ((ji21) : Int) := Z.od
   have q80 : (ji21) < (x7_1.length : Int) := Z.od
   obtain ⟨ad80, e80, hx80_0⟩ := Kd.at_bool (Kd.R_reads' HO_7.out).2.2 (ji21) p80 q80
   (try rw [← Nbq27.out] at hx80_0)
   cases e80
   replace p80 := eq_true p80
   replace q80 := eq_true q80
   have p81 : 0 ≤ ((ji24) : Int) := Z.od
   have q81 : (ji24) < (x7_1.length : Int) := Z.od
   obtain ⟨ad81, e81, hx81_0⟩ := Kd.at_bool (Kd.R_reads' HO_7.out).2.2 (ji24) p81 q81
   obtain rfl : ad80 = ad81 := (by injection e81)
   replace p81 := eq_true p81
   replace q81 := eq_true q81
   refine start_ (n := 14) (S := fun w' => w'.cell? (ad80.add ((ji21)).toNat) = some (.bool false) ∧ w'.cell? (ad80.add ((ji24)).toNat) = some (.bool (rdOf false x7_1 (ji24)))) (ds := []) (Z.mb 14 0) (by kernel_rfl) rfl rfl ⟨hx80_0, hx81_0⟩ (fun hHeld => ?_); refine with_tabW impl_consents.tab7 impl_consents.bits7 (fun HT_ HW_ => ?_)
   generalize w58.drew = w59 at HO_7 BK78 BK77 HB hx80_0 hx81_0 hHeld ⊢
   refine Z.pv 0 38 14 1 HT_.out ?_
   refine Z.pv 1 39 14 3 HT_.out ?_
   refine Z.pv 2 40 14 7 HT_.out ?_
   refine Z.pv 3 41 14 15 HT_.out ?_
   refine Z.pv 4 42 14 31 HT_.out ?_
   refine Z.pv 6 44 14 95 HT_.out ?_
   refine Z.pv 7 45 14 223 HT_.out ?_
   refine Z.pv 8 46 14 479 HT_.out ?_
   refine Z.pv 9 47 14 991 HT_.out ?_
   refine Z.pv 10 48 14 2015 HT_.out ?_
   refine Z.t2 5 43 14 2047 HT_.out HW_.out hHeld ?_
   refine Z.pv 12 10 14 6143 HT_.out ?_
   refine Z.t2 11 49 14 8191 HT_.out HW_.out hHeld ?_
   refine Z.pv 13 11 14 16383 HT_.out ?_
   refine done_ (done_of HT_.out (by kernel_rfl)) ?_
   have hcz61 := Z.c3 BK77.out
   have q62 : ((ji21) : Int) ≤ ((x7_1.length : Int) : Int) := Z.od
   obtain ⟨i062, hi062, _, hsz62, _⟩ := info_parts info4
   have hcut62 := cut_to (P := Try.prog) 113 4 .i64 Try.underlying113 hi062 (some ad80) x7_1.length co60 (ji21) (Z.od) q62 (Kd.R_reads' HO_7.out).2.1
   have hr62 := Kd.R_take (m := ((ji21) : Int).toNat) HO_7.out (by omega)
   have hy62 : y84.length = ((ji21) : Int).toNat := (by rw [Ny84.out, List.length_take]; omega)
   rw [← Ny84.out] at hr62
   rw [← hy62] at hr62 hcut62
   clear hy62 hi062 hsz62 HO_7
   have HO219 := Z.k hr62
   clear hr62
   replace q62 := eq_true q62
   try go_wp2_with (((with_reducible refine gate_builtin (b := .append) (xs := #[.tmp 65, .tmp 67]) rfl ?_); at_builtin; refine Kd.R_append Kd.bool (w0 := w) w.heap.size rfl (.tmp 65) (.tmp 67) 113 4 (.bool false) 1 rfl Try.underlying113 info4 rfl (by decide) (by omega) (.slice (some ad80) y84.length co60) y84 (rdOf false x7_1 (ji24)) [.bool (rdOf false x7_1 (ji24))] (fun _ => True) (fun _ => False) rfl rfl ?aP (fun _ hk => hk.elim) ?aF ?aO ?aB ?aS ?aL ?_; (case aP => exact rfl); (case aB => exact HB.out); (case aF => exact (fun _ _ => trivial)); (case aO => exact HO219.out); (case aS => exact (below_size HB.out)); (case aL => have := LMc54.out; omega); intro v221 w63 ho hb hg hat; rw [← Ny94.out] at ho; replace BK78 := Z.k (blk_grown (g := gb78) (o := .cells #[.int .i64 a0_0, .slice A0_1 l0_1.length c0_1] 25 (0, 0)) (Z.bk BK78.out) hg (Kd.R_ne HO219.out BK78.out (by decide))); replace BK77 := Z.k (blk_grown (g := gb77) (o := .cells #[.int .i64 ((rd_T111 l1 x16_1).f0), .int .i64 ((rd_T111 l1 x16_1).f1), .int .i64 ((rd_T111 l1 x16_1).f2)] 111 (0, 0)) (Z.bk BK77.out) hg (Kd.R_ne HO219.out BK77.out (by decide))); replace HB := Z.k hb; have HO222 := Z.k ho; clear HO219; clear ho hb hg hat))
   go_roundg k1
   case measure => have := HK1.out; omega
   case rel => exact ⟨(y94), (wrap64 (x16_1 + 1)), (by rfl), H', ⟨by have := HK1.out; omega⟩, ⟨by exact HO222.out⟩, ⟨by exact BK78.out⟩, ⟨HB.out⟩⟩
  rw [if_neg c52] at H
  have c52b0 : (((rd_T111 l1 x16_1).f0) == 2) = false := beq_eq_false_iff_ne.mpr c52
  have c52b1 : (((rd_T111 l1 x16_1).f0) != 2) = true := bne_iff_ne.mpr c52
  obtain ⟨c64, H⟩ := Z.ifp H
  have c64b0 := eq_true c64
  have c64b1 : decide ((ji21) ≤ (x7_1.length : Int)) = true := decide_eq_true c64
  clear c64
  obtain ⟨y85, hy85⟩ : ∃ y_ : List Bool, y_ = (x7_1.take ((ji21) : Int).toNat) := ⟨_, rfl⟩
  replace H : (if y85.length < 140737488355328 then (impl_consents.l0 k1 a2 (y85 ++ [false]) l1 (l1.length : Int) (wrap64 (x16_1 + 1)) a0_0 l0_1) else (none)) = some r := by (have H2_ := (Option.bind_some _ _).symm.trans H; rw [hy85]; with_reducible exact H2_)
  have Ny85 := Z.k hy85
  clear hy85
  obtain ⟨c65, H⟩ := Z.ifp H
  have LMc65 := Z.k c65
  clear c65
  obtain ⟨y96, hy96⟩ : ∃ y_ : List Bool, y_ = (y85 ++ [false]) := ⟨_, rfl⟩
  replace H : (impl_consents.l0 k1 a2 y96 l1 (l1.length : Int) (wrap64 (x16_1 + 1)) a0_0 l0_1) = some r := by (rw [hy96]; with_reducible exact H)
  have Ny96 := Z.k hy96
  clear hy96
  have H' := Z.k H
  clear H
  have p79 : 0 ≤ (x16_1 : Int) := Z.od
  have q79 : x16_1 < (l1.length : Int) := Z.od
  obtain ⟨ad79, rfl, hx79_0, hx79_1, hx79_2⟩ := at_T111 HR1.out x16_1 p79 q79
  replace hx79_0 := Z.up HB.out hx79_0
  replace hx79_1 := Z.up HB.out hx79_1
  replace hx79_2 := Z.up HB.out hx79_2
  replace p79 := eq_true p79
  replace q79 := eq_true q79
  try go_wp2_with (((with_reducible refine gate_dst (N := 9) rfl ?_); refine Z.bz #[.int .i64 0, .int .i64 0, .int .i64 0] 111 HB GE78 ?_; clear HB; intro gb77 w66 BK77 GE77 HB hg hb; have GW77 := GE77; replace HO_7 := Z.rb HO_7 hb; have NB78_77 := Z.nl hg BK78; have NB77_78 := Z.ng hg BK78; replace BK78 := Z.bb BK78 hb; clear hb hg; have hnb67 := NB77_78.out; have hnc67 := NB78_77.out; have hcz68 := Z.c3 BK77.out))
  have n0_ : Aside0 (Kd.R Kd.bool 4 (((w66.setCell ⟨gb77, 0, none⟩ (.int .i64 ((rd_T111 l1 x16_1).f0))).setCell ⟨gb77, 1, none⟩ (.int .i64 ((rd_T111 l1 x16_1).f1))).setCell ⟨gb77, 2, none⟩ (.int .i64 ((rd_T111 l1 x16_1).f2))) w.heap.size (fun _ => True) u7 x7_1) := ⟨by exact Kd.R_mono (Kd.R_far (p := ⟨gb77, 2, none⟩) (Kd.R_far (p := ⟨gb77, 1, none⟩) (Kd.R_far (p := ⟨gb77, 0, none⟩) (Kd.R_types HO_7.out BK77.out (by decide)) (fun _ hk => hk.2) (.int .i64 ((rd_T111 l1 x16_1).f0))) (fun _ hk => hk.2) (.int .i64 ((rd_T111 l1 x16_1).f1))) (fun _ hk => hk.2) (.int .i64 ((rd_T111 l1 x16_1).f2))) (fun _ hk => trivial)⟩
  have n1_ : Aside0 ((((w66.setCell ⟨gb77, 0, none⟩ (.int .i64 ((rd_T111 l1 x16_1).f0))).setCell ⟨gb77, 1, none⟩ (.int .i64 ((rd_T111 l1 x16_1).f1))).setCell ⟨gb77, 2, none⟩ (.int .i64 ((rd_T111 l1 x16_1).f2))).heap[gb78]? = some (.cells #[.int .i64 a0_0, .slice A0_1 l0_1.length c0_1] 25 (0, 0))) := ⟨by refine blk_far ?_ NB78_77.out _; refine blk_far ?_ NB78_77.out _; refine blk_far ?_ NB78_77.out _; exact BK78.out⟩
  have n2_ : Aside0 ((((w66.setCell ⟨gb77, 0, none⟩ (.int .i64 ((rd_T111 l1 x16_1).f0))).setCell ⟨gb77, 1, none⟩ (.int .i64 ((rd_T111 l1 x16_1).f1))).setCell ⟨gb77, 2, none⟩ (.int .i64 ((rd_T111 l1 x16_1).f2))).heap[gb77]? = some (.cells #[.int .i64 ((rd_T111 l1 x16_1).f0), .int .i64 ((rd_T111 l1 x16_1).f1), .int .i64 ((rd_T111 l1 x16_1).f2)] 111 (0, 0))) := ⟨by refine blk_put (cs := #[.int .i64 ((rd_T111 l1 x16_1).f0), .int .i64 ((rd_T111 l1 x16_1).f1), .int .i64 0]) ?_ 2 _ rfl; refine blk_put (cs := #[.int .i64 ((rd_T111 l1 x16_1).f0), .int .i64 0, .int .i64 0]) ?_ 1 _ rfl; refine blk_put (cs := #[.int .i64 0, .int .i64 0, .int .i64 0]) ?_ 0 _ rfl; exact BK77.out⟩
  have n3_ : Aside0 (Below w.heap.size w (((w66.setCell ⟨gb77, 0, none⟩ (.int .i64 ((rd_T111 l1 x16_1).f0))).setCell ⟨gb77, 1, none⟩ (.int .i64 ((rd_T111 l1 x16_1).f1))).setCell ⟨gb77, 2, none⟩ (.int .i64 ((rd_T111 l1 x16_1).f2)))) := ⟨by repeat ((with_reducible first | exact HB.out | refine below_set ?_ GE77.out))⟩
  (try clear HO_7)
  (try clear BK78)
  (try clear BK77)
  (try clear HB)
  generalize (((w66.setCell ⟨gb77, 0, none⟩ (.int .i64 ((rd_T111 l1 x16_1).f0))).setCell ⟨gb77, 1, none⟩ (.int .i64 ((rd_T111 l1 x16_1).f1))).setCell ⟨gb77, 2, none⟩ (.int .i64 ((rd_T111 l1 x16_1).f2))) = w69 at n0_ n1_ n2_ n3_ ⊢
  have HO_7 := n0_
  have BK78 := n1_
  have BK77 := n2_
  have HB := n3_
  clear n0_ n1_ n2_ n3_
  replace HO_7 := Z.k (Kd.R_drew HO_7.out)
  replace BK78 := Z.k (blk_drew BK78.out)
  replace BK77 := Z.k (blk_drew BK77.out)
  replace HB := Z.k (below_drew1 HB.out)
  obtain ⟨Ao71, co71, eo71⟩ := Kd.R_slice HO_7.out
  (subst eo71)
  have p80 : 0 ≤ ((ji21) : Int) := Z.od
  have q80 : (ji21) < (x7_1.length : Int) := Z.od
  obtain ⟨ad80, e80, hx80_0⟩ := Kd.at_bool (Kd.R_reads' HO_7.out).2.2 (ji21) p80 q80
  (try rw [← Nbq27.out] at hx80_0)
  cases e80
  replace p80 := eq_true p80
  replace q80 := eq_true q80
  have p81 : 0 ≤ ((ji24) : Int) := Z.od
  have q81 : (ji24) < (x7_1.length : Int) := Z.od
  obtain ⟨ad81, e81, hx81_0⟩ := Kd.at_bool (Kd.R_reads' HO_7.out).2.2 (ji24) p81 q81
  obtain rfl : ad80 = ad81 := (by injection e81)
  replace p81 := eq_true p81
  replace q81 := eq_true q81
  refine start_ (n := 14) (S := fun w' => w'.cell? (ad80.add ((ji21)).toNat) = some (.bool false) ∧ w'.cell? (ad80.add ((ji24)).toNat) = some (.bool (rdOf false x7_1 (ji24)))) (ds := []) (Z.mb 14 0) (by kernel_rfl) rfl rfl ⟨hx80_0, hx81_0⟩ (fun hHeld => ?_); refine with_tabW impl_consents.tab7 impl_consents.bits7 (fun HT_ HW_ => ?_)
  generalize w69.drew = w70 at HO_7 BK78 BK77 HB hx80_0 hx81_0 hHeld ⊢
  refine Z.pv 0 38 14 1 HT_.out ?_
  refine Z.pv 1 39 14 3 HT_.out ?_
  refine Z.pv 2 40 14 7 HT_.out ?_
  refine Z.pv 3 41 14 15 HT_.out ?_
  refine Z.pv 4 42 14 31 HT_.out ?_
  refine Z.pv 6 44 14 95 HT_.out ?_
  refine Z.pv 7 45 14 223 HT_.out ?_
  refine Z.pv 8 46 14 479 HT_.out ?_
  refine Z.pv 9 47 14 991 HT_.out ?_
  refine Z.pv 10 48 14 2015 HT_.out ?_
  refine Z.t2 5 43 14 2047 HT_.out HW_.out hHeld ?_
  refine Z.pv 12 10 14 6143 HT_.out ?_
  refine Z.t2 11 49 14 8191 HT_.out HW_.out hHeld ?_
  refine Z.pv 13 11 14 16383 HT_.out ?_
  refine done_ (done_of HT_.out (by kernel_rfl)) ?_
  have hcz72 := Z.c3 BK77.out
  have q73 : ((ji21) : Int) ≤ ((x7_1.length : Int) : Int) := Z.od
  obtain ⟨i073, hi073, _, hsz73, _⟩ := info_parts info4
  have hcut73 := cut_to (P := Try.prog) 113 4 .i64 Try.underlying113 hi073 (some ad80) x7_1.length co71 (ji21) (Z.od) q73 (Kd.R_reads' HO_7.out).2.1
  have hr73 := Kd.R_take (m := ((ji21) : Int).toNat) HO_7.out (by omega)
  have hy73 : y85.length = ((ji21) : Int).toNat := (by rw [Ny85.out, List.length_take]; omega)
  rw [← Ny85.out] at hr73
  rw [← hy73] at hr73 hcut73
  clear hy73 hi073 hsz73 HO_7
  have HO225 := Z.k hr73
  clear hr73
  replace q73 := eq_true q73
  try go_wp2_with (((with_reducible refine gate_builtin (b := .append) (xs := #[.tmp 65, .tmp 67]) rfl ?_); at_builtin; refine Kd.R_append Kd.bool (w0 := w) w.heap.size rfl (.tmp 65) (.tmp 67) 113 4 (.bool false) 1 rfl Try.underlying113 info4 rfl (by decide) (by omega) (.slice (some ad80) y85.length co71) y85 false [.bool false] (fun _ => True) (fun _ => False) rfl rfl ?aP (fun _ hk => hk.elim) ?aF ?aO ?aB ?aS ?aL ?_; (case aP => exact rfl); (case aB => exact HB.out); (case aF => exact (fun _ _ => trivial)); (case aO => exact HO225.out); (case aS => exact (below_size HB.out)); (case aL => have := LMc65.out; omega); intro v227 w74 ho hb hg hat; rw [← Ny96.out] at ho; replace BK78 := Z.k (blk_grown (g := gb78) (o := .cells #[.int .i64 a0_0, .slice A0_1 l0_1.length c0_1] 25 (0, 0)) (Z.bk BK78.out) hg (Kd.R_ne HO225.out BK78.out (by decide))); replace BK77 := Z.k (blk_grown (g := gb77) (o := .cells #[.int .i64 ((rd_T111 l1 x16_1).f0), .int .i64 ((rd_T111 l1 x16_1).f1), .int .i64 ((rd_T111 l1 x16_1).f2)] 111 (0, 0)) (Z.bk BK77.out) hg (Kd.R_ne HO225.out BK77.out (by decide))); replace HB := Z.k hb; have HO228 := Z.k ho; clear HO225; clear ho hb hg hat))
  go_roundg k1
  case measure => have := HK1.out; omega
  case rel => exact ⟨(y96), (wrap64 (x16_1 + 1)), (by rfl), H', ⟨by have := HK1.out; omega⟩, ⟨by exact HO228.out⟩, ⟨by exact BK78.out⟩, ⟨HB.out⟩⟩
end Go.Proofs.Ytkogboechfieeaa.PAll

/- Walks of functions that All reaches, in the form of the print. -/
-- PRINTED
import Derived.Test.YtcafckapdgaogaaCAll1
import Derived.Test.YtcafckapdgaogaaCAll2
namespace Go.Proofs.Ytcafckapdgaogaa.PAll
open Go.RowKit Go.Proofs.YtcafckapdgaogaaW.PrintWords Go.Proofs.YtcafckapdgaogaaW.PrintLast Go.Proofs.YtcafckapdgaogaaW.PrintMore
attribute [local go_sem] max2_int min2_int max_two min_two max_three min_three max_four min_four
set_option linter.unusedVariables false
set_option linter.unusedSimpArgs false

attribute [local go_sem high] eqA134
/-! ### spec_TermOk: function 108 -/
mutual
def spec_TermOk.l0 : Nat → List (S134) → Int → Int → Int → List Int → Option (Bool)
 | 0, _, _, _, _, _ => none
 | k + 1, x1, x5, x6, x120000, x120001 => if x6 < (x1.length : Int) then (if 0 ≤ x6 then (if ((rd_T134 x1 x6).f0) = 0 then ((spec_l1In.f ((rd_T134 x1 x6).f1) 0 (wrap64 ((x120001.length : Int) - 1))).bind fun t123 => (if t123 = true then (if 0 ≤ ((rd_T134 x1 x6).f1) then (if ((rd_T134 x1 x6).f1) < (x120001.length : Int) then ((spec_l1Heads.f k (rd x120001 ((rd_T134 x1 x6).f1))).bind fun t127 => ((spec_l1In.f ((rd_T134 x1 x6).f2) 1 t127).bind fun t128 => (spec_TermOk.j1 k x1 x5 x6 t128 x120000 x120001))) else (none)) else (none)) else (spec_TermOk.j1 k x1 x5 x6 false x120000 x120001))) else (spec_TermOk.j1 k x1 x5 x6 false x120000 x120001)) else (none)) else ((spec_HouseOk.f k x120000 x120001).bind fun t120 => (if t120 = true then (if x5 = 1 then (some (decide ((x1.length : Int) ≤ 9))) else (some false)) else (some false)))
def spec_TermOk.j1 : Nat → List (S134) → Int → Int → Bool → Int → List Int → Option (Bool)
 | 0, _, _, _, _, _, _ => none
 | k + 1, x1, x5, x6, x13, x120000, x120001 => if x13 = true then (spec_TermOk.l0 k x1 (wrap64 (x5 + 1)) (wrap64 (x6 + 1)) x120000 x120001) else (if 0 ≤ x6 then (if x6 < (x1.length : Int) then (if (((rd_T134 x1 x6).f0) == 1 && (((rd_T134 x1 x6).f1) == 0 && (((rd_T134 x1 x6).f2) == 0))) = true then (if x5 ≥ 2 then (spec_TermOk.l0 k x1 (wrap64 (x5 - 1)) (wrap64 (x6 + 1)) x120000 x120001) else (some false)) else (if (((rd_T134 x1 x6).f0) == 2 && (((rd_T134 x1 x6).f1) == 0 && (((rd_T134 x1 x6).f2) == 0))) = true then (if x5 ≥ 2 then (spec_TermOk.l0 k x1 (wrap64 (x5 - 1)) (wrap64 (x6 + 1)) x120000 x120001) else (some false)) else (some false))) else (none)) else (none))
end
def spec_TermOk.f (k : Nat) (a0_0 : Int) (l0_1 : List Int) (l1 : List (S134)) : Option (Bool) := spec_TermOk.l0 k l1 0 0 a0_0 l0_1
def spec_TermOk.T6 : Bool × List (List Nat × List Nat) := (true, [([], []), ([], []), ([0, 1], [0, 1]), ([2], [2]), ([3], [3]), ([4], [4]), ([5], [5]), ([6], [6]), ([6], [6]), ([7, 8, 6], [6, 7, 8]), ([9, 6], [6, 9]), ([10, 6], [6, 10]), ([6], [6]), ([12, 6], [6, 12]), ([13, 6], [6, 13]), ([14, 6], [6, 14]), ([11, 15, 6, 6], [6, 11, 15]), ([6, 16], [6, 16]), ([17, 16], [17]), ([18], [18]), ([18], [18]), ([19, 20, 18], [18, 19, 20]), ([21, 18], [18, 21]), ([22, 18], [18, 22]), ([18], [18]), ([24, 18], [18, 24]), ([18], [18]), ([18], [18]), ([26, 27, 18], [18, 26, 27]), ([28, 18], [18, 28]), ([29, 18], [18, 29]), ([25, 30, 18], [18, 25, 30]), ([31, 18], [18, 31]), ([32, 18, 18], [18, 32]), ([23, 33, 33, 18], [18, 23, 33]), ([18, 34], [18, 34]), ([35, 34], [35])])
def spec_TermOk.B6 : List Nat := [0, 0, 3, 7, 15, 31, 63, 127, 127, 511, 1023, 2047, 127, 4223, 12415, 28799, 65535, 131071, 262143, 524287, 524287, 2097151, 4194303, 8388607, 524287, 17301503, 524287, 524287, 201850879, 470286335, 1007157247, 2131230719, 4278714367, 8573681663, 17179869183, 34359738367, 68719476735]
theorem spec_TermOk.tab6 : rtab .any (opsOf Try.f108 6) = spec_TermOk.T6 := by kernel_rfl
theorem spec_TermOk.bits6 : waitsOk spec_TermOk.T6.2 spec_TermOk.B6 = true := by kernel_rfl
set_option maxHeartbeats 8000000 in
set_option maxRecDepth 100000 in
theorem spec_TermOk.calls (k : Nat) (a0_0 : Int) (A0_1 : Option Addr) (c0_1 : Nat) (l0_1 : List Int) (A1 : Option Addr) (c1 : Nat) (l1 : List (S134)) (r : Bool) (w : World) (hr0_1 : Kd.C (Kd.int .i64) w A0_1 l0_1.length l0_1) (hc0_1 : l0_1.length ≤ c0_1) (hr1 : Kd.C k134 w A1 l1.length l1) (hc1 : l1.length ≤ c1) (h : spec_TermOk.f k a0_0 l0_1 l1 = some r) :
  Calls Try.prog 108 #[.agg #[.int .i64 a0_0, .slice A0_1 l0_1.length c0_1], .slice A1 l1.length c1] w fun e w' => e = .returned (.bool r) ∧ Below w.heap.size w w' := by
 have hu32 := Try.underlying32
 have hu134 := Try.underlying134
 have HR0_1 := Aside0.mk hr0_1
 have HC0_1 := Aside0.mk hc0_1
 clear hr0_1 hc0_1
 have HR1 := Aside0.mk hr1
 have HC1 := Aside0.mk hc1
 clear hr1 hc1
 have HB := Aside0.mk (Below.refl w.heap.size w)
 have H := h
 clear h
 unfold spec_TermOk.f at H
 have H' := Aside0.mk H
 clear H
 go_enter Try.func108, Try.ntmps108
 go_wp2_with (((with_reducible refine gate_dst (N := 2) rfl ?_); (try (refine gate_guard (by rfl) ?_; dsimp only)); refine Z.bx #[.int .i64 a0_0, .slice A0_1 l0_1.length c0_1] 32 HB ?_; clear HB; intro gb119 w3 BK119 GE119 HB hg hb; have GW119 := GE119; clear hb hg))
 go_loopg [5, 6] k (fun kq v5 v6 w' => ∃ (x5_1 : Int) (x6_1 : Int), v5 = .int .i64 x5_1 ∧ v6 = .int .i64 x6_1 ∧ Aside0 (spec_TermOk.l0 kq l1 x5_1 x6_1 a0_0 l0_1 = some r) ∧ Aside0 (kq ≤ k) ∧ Aside0 (w'.heap[gb119]? = some (.cells #[.int .i64 a0_0, (.slice A0_1 l0_1.length c0_1)] 32 (0, 0))) ∧ Aside0 (Below w.heap.size w w'))
 case atStart => exact ⟨(0), (0), (by rfl), (by rfl), H', ⟨Nat.le_refl _⟩, ⟨by (with_reducible skip); exact BK119.out⟩, ⟨Z.bs HB.out GE119.out⟩⟩
 case round =>
  clear H'
  obtain ⟨x5_1, x6_1, rfl, rfl, HA, HK1, BK119, HB⟩ := hrel
  cases gk with
  | zero => exact absurd HA.out (by simp [spec_TermOk.l0])
  | succ k1 =>
   have H := HA.out
   clear HA
   simp only [spec_TermOk.l0] at H
   by_cases c4 : x6_1 < (l1.length : Int)
   ·rw [if_pos c4] at H
    have c4b0 := decide_eq_true c4
    clear c4
    have HC5 := Aside0.mk H
    clear H
    go_upto_region 6 with (fail)
    go_cut [13] (fun v13 wc => ∃ (kq : Nat) (x13_4 : Bool), v13 = .bool x13_4 ∧ Aside0 (spec_TermOk.j1 kq l1 x5_1 x6_1 x13_4 a0_0 l0_1 = some r) ∧ Aside0 (kq ≤ k1) ∧ Aside0 (wc.heap[gb119]? = some (.cells #[.int .i64 a0_0, (.slice A0_1 l0_1.length c0_1)] 32 (0, 0))) ∧ Aside0 (Below w.heap.size w wc))
    case first =>
     have H := HC5.out
     clear HC5
     obtain ⟨c6, H⟩ := Z.ifp H
     have c6b0 : decide (0 ≤ x6_1) = true := decide_eq_true c6
     clear c6
     by_cases c7 : ((rd_T134 l1 x6_1).f0) = 0
     ·rw [if_pos c7] at H
      have c7b0 : (((rd_T134 l1 x6_1).f0) == 0) = true := beq_iff_eq.mpr c7
      have c7b1 : (((rd_T134 l1 x6_1).f0) != 0) = false := bne_eq_false_iff_eq.mpr c7
      clear c7
      replace H := Option.bind_eq_some_iff.mp H
      obtain ⟨t123, A80, H⟩ := H
      have A8 := Aside0.mk A80
      clear A80
      by_cases c9 : t123 = true
      ·subst c9
       rw [if_pos rfl] at H
       obtain ⟨c10, H⟩ := Z.ifp H
       have c10b0 : decide (0 ≤ ((rd_T134 l1 x6_1).f1)) = true := decide_eq_true c10
       clear c10
       obtain ⟨c11, H⟩ := Z.ifp H
       have c11b0 : decide (((rd_T134 l1 x6_1).f1) < (l0_1.length : Int)) = true := decide_eq_true c11
       clear c11
       replace H := Option.bind_eq_some_iff.mp H
       obtain ⟨t127, A120, H⟩ := H
       have A12 := Aside0.mk A120
       clear A120
       replace H := Option.bind_eq_some_iff.mp H
       obtain ⟨t128, A130, H⟩ := H
       have A13 := Aside0.mk A130
       clear A130
       have H' := Aside0.mk H
       clear H
       try go_wp2
       replace BK119 := Aside0.mk (blk_drew BK119.out)
       replace HB := Aside0.mk (below_drew1 HB.out)
       have p121 : 0 ≤ (x6_1 : Int) := Z.od
       have q121 : x6_1 < (l1.length : Int) := Z.od
       obtain ⟨ad121, rfl, hx121_0, hx121_1, hx121_2⟩ := at_T134 HR1.out x6_1 p121 q121
       have hw121_2 := hx121_2
       have hw121_1 := hx121_1
       have hw121_0 := hx121_0
       replace hx121_0 := Z.up HB.out hx121_0
       replace hx121_1 := Z.up HB.out hx121_1
       replace hx121_2 := Z.up HB.out hx121_2
       replace p121 := eq_true p121
       replace q121 := eq_true q121
       have p122 : 0 ≤ (x6_1 : Int) := Z.od
       have q122 : x6_1 < (l1.length : Int) := Z.od
       obtain ⟨ad122, e122, hx122_0, hx122_1, hx122_2⟩ := at_T134 HR1.out x6_1 p122 q122
       have hw122_2 := hx122_2
       have hw122_1 := hx122_1
       have hw122_0 := hx122_0
       obtain rfl : ad121 = ad122 := (by injection e122)
       replace hx122_0 := Z.up HB.out hx122_0
       replace hx122_1 := Z.up HB.out hx122_1
       replace hx122_2 := Z.up HB.out hx122_2
       replace p122 := eq_true p122
       replace q122 := eq_true q122
       have p124 : 0 ≤ (x6_1 : Int) := Z.od
       have q124 : x6_1 < (l1.length : Int) := Z.od
       obtain ⟨ad124, e124, hx124_0, hx124_1, hx124_2⟩ := at_T134 HR1.out x6_1 p124 q124
       have hw124_2 := hx124_2
       have hw124_1 := hx124_1
       have hw124_0 := hx124_0
       obtain rfl : ad121 = ad124 := (by injection e124)
       replace hx124_0 := Z.up HB.out hx124_0
       replace hx124_1 := Z.up HB.out hx124_1
       replace hx124_2 := Z.up HB.out hx124_2
       replace p124 := eq_true p124
       replace q124 := eq_true q124
       have p125 : 0 ≤ (x6_1 : Int) := Z.od
       have q125 : x6_1 < (l1.length : Int) := Z.od
       obtain ⟨ad125, e125, hx125_0, hx125_1, hx125_2⟩ := at_T134 HR1.out x6_1 p125 q125
       have hw125_2 := hx125_2
       have hw125_1 := hx125_1
       have hw125_0 := hx125_0
       obtain rfl : ad121 = ad125 := (by injection e125)
       replace hx125_0 := Z.up HB.out hx125_0
       replace hx125_1 := Z.up HB.out hx125_1
       replace hx125_2 := Z.up HB.out hx125_2
       replace p125 := eq_true p125
       replace q125 := eq_true q125
       have p126 : 0 ≤ (((rd_T134 l1 x6_1).f1) : Int) := Z.od
       have q126 : ((rd_T134 l1 x6_1).f1) < (l0_1.length : Int) := Z.od
       obtain ⟨ad126, rfl, hx126_0⟩ := Kd.at_int HR0_1.out ((rd_T134 l1 x6_1).f1) p126 q126
       have hw126_0 := hx126_0
       replace hx126_0 := Z.up HB.out hx126_0
       replace p126 := eq_true p126
       replace q126 := eq_true q126
       refine start_ (n := 37) (S := fun w' => w'.cell? ⟨gb119, 0, none⟩ = some (.int .i64 a0_0) ∧ w'.cell? ⟨gb119, 1, none⟩ = some (.slice (some ad126) l0_1.length c0_1) ∧ w'.cell? (ad121.add ((x6_1).toNat * 3)) = some (.int .i64 ((rd_T134 l1 x6_1).f0)) ∧ w'.cell? ⟨(ad121.add ((x6_1).toNat * 3)).block, (ad121.add ((x6_1).toNat * 3)).off + 1, none⟩ = some (.int .i64 ((rd_T134 l1 x6_1).f1)) ∧ w'.cell? ⟨(ad121.add ((x6_1).toNat * 3)).block, (ad121.add ((x6_1).toNat * 3)).off + 2, none⟩ = some (.int .i64 ((rd_T134 l1 x6_1).f2)) ∧ w'.cell? (ad121.add ((x6_1).toNat * 3)) = some (.int .i64 ((rd_T134 l1 x6_1).f0)) ∧ w'.cell? ⟨(ad121.add ((x6_1).toNat * 3)).block, (ad121.add ((x6_1).toNat * 3)).off + 1, none⟩ = some (.int .i64 ((rd_T134 l1 x6_1).f1)) ∧ w'.cell? ⟨(ad121.add ((x6_1).toNat * 3)).block, (ad121.add ((x6_1).toNat * 3)).off + 2, none⟩ = some (.int .i64 ((rd_T134 l1 x6_1).f2)) ∧ w'.cell? (ad121.add ((x6_1).toNat * 3)) = some (.int .i64 ((rd_T134 l1 x6_1).f0)) ∧ w'.cell? ⟨(ad121.add ((x6_1).toNat * 3)).block, (ad121.add ((x6_1).toNat * 3)).off + 1, none⟩ = some (.int .i64 ((rd_T134 l1 x6_1).f1)) ∧ w'.cell? ⟨(ad121.add ((x6_1).toNat * 3)).block, (ad121.add ((x6_1).toNat * 3)).off + 2, none⟩ = some (.int .i64 ((rd_T134 l1 x6_1).f2)) ∧ w'.cell? (ad121.add ((x6_1).toNat * 3)) = some (.int .i64 ((rd_T134 l1 x6_1).f0)) ∧ w'.cell? ⟨(ad121.add ((x6_1).toNat * 3)).block, (ad121.add ((x6_1).toNat * 3)).off + 1, none⟩ = some (.int .i64 ((rd_T134 l1 x6_1).f1)) ∧ w'.cell? ⟨(ad121.add ((x6_1).toNat * 3)).block, (ad121.add ((x6_1).toNat * 3)).off + 2, none⟩ = some (.int .i64 ((rd_T134 l1 x6_1).f2)) ∧ w'.cell? (ad126.add (((rd_T134 l1 x6_1).f1)).toNat) = some (.int .i64 (rd l0_1 ((rd_T134 l1 x6_1).f1)))) (ds := []) #[false, false, false, false, false, false, false, false, false, false, false, false, false, false, false, false, false, false, false, false, false, false, false, false, false, false, false, false, false, false, false, false, false, false, false, false, false] (by kernel_rfl) rfl rfl ⟨(blk_cell BK119.out 0).trans rfl, (blk_cell BK119.out 1).trans rfl, (Z.up HB.out hw121_0 :), (Z.up HB.out hw121_1 :), (Z.up HB.out hw121_2 :), (Z.up HB.out hw122_0 :), (Z.up HB.out hw122_1 :), (Z.up HB.out hw122_2 :), (Z.up HB.out hw124_0 :), (Z.up HB.out hw124_1 :), (Z.up HB.out hw124_2 :), (Z.up HB.out hw125_0 :), (Z.up HB.out hw125_1 :), (Z.up HB.out hw125_2 :), (Z.up HB.out hw126_0 :)⟩ (fun hHeld => ?_); refine with_tabW spec_TermOk.tab6 spec_TermOk.bits6 (fun HT_ HW_ => ?_)
       generalize wr.drew = w14 at BK119 HB hx121_0 hx121_1 hx121_2 hx122_0 hx122_1 hx122_2 hx124_0 hx124_1 hx124_2 hx125_0 hx125_1 hx125_2 hx126_0 hHeld ⊢
       refine Z.pv 0 14 37 1 HT_.out ?_
       refine Z.pv 1 15 37 3 HT_.out ?_
       refine Z.pv 2 16 37 7 HT_.out ?_
       refine Z.pv 3 17 37 15 HT_.out ?_
       refine Z.t15 4 18 37 31 HT_.out HW_.out hHeld ?_
       refine Z.pv 5 19 37 63 HT_.out ?_
       refine Z.pv 6 20 37 127 HT_.out ?_
       refine Z.pv 7 21 37 255 HT_.out ?_
       refine Z.pv 8 22 37 511 HT_.out ?_
       refine Z.pv 9 23 37 1023 HT_.out ?_
       refine Z.pv 10 24 37 2047 HT_.out ?_
       refine Z.pv 12 26 37 6143 HT_.out ?_
       refine Z.t15 11 25 37 8191 HT_.out HW_.out hHeld ?_
       refine Z.t15 13 27 37 16383 HT_.out HW_.out hHeld ?_
       refine Z.pv 14 28 37 32767 HT_.out ?_
       refine Z.pv 15 29 37 65535 HT_.out ?_
       refine one_ (i := 16) (N := some 30) (Z.mb 37 131071) rfl rfl (one_of HT_.out (by kernel_rfl)) (by decide) (fun K hK => ?_)
       refine goes_ Try.func73 (by kernel_rfl) rfl #[.int .i64 ((rd_T134 l1 x6_1).f1), .int .i64 0, .int .i64 (wrap64 ((l0_1.length : Int) - 1))] (by rfl) rfl rfl Z.ar ?_
       with_reducible refine (spec_l1In.calls ((rd_T134 l1 x6_1).f1) 0 (wrap64 ((l0_1.length : Int) - 1)) true _ A8.out).mono ?_
       rintro e w' ⟨rfl, ⟨nd, rfl⟩⟩
       refine ⟨_, rfl, ?_⟩
       refine hK.out _ _ ⟨(blk_cell BK119.out 0).trans rfl, (blk_cell BK119.out 1).trans rfl, (Z.up HB.out hw121_0 :), (Z.up HB.out hw121_1 :), (Z.up HB.out hw121_2 :), (Z.up HB.out hw122_0 :), (Z.up HB.out hw122_1 :), (Z.up HB.out hw122_2 :), (Z.up HB.out hw124_0 :), (Z.up HB.out hw124_1 :), (Z.up HB.out hw124_2 :), (Z.up HB.out hw125_0 :), (Z.up HB.out hw125_1 :), (Z.up HB.out hw125_2 :), (Z.up HB.out hw126_0 :)⟩ (fun hHeld => ?_)
       clear hK K
       refine Z.nm ?_
       refine Z.pv 17 31 37 262143 HT_.out ?_
       refine Z.pv 18 32 37 524287 HT_.out ?_
       refine Z.pv 19 33 37 1048575 HT_.out ?_
       refine Z.pv 20 34 37 2097151 HT_.out ?_
       refine Z.pv 21 35 37 4194303 HT_.out ?_
       refine Z.pv 22 36 37 8388607 HT_.out ?_
       refine Z.pv 24 38 37 25165823 HT_.out ?_
       refine Z.pv 26 40 37 92274687 HT_.out ?_
       refine Z.pv 27 41 37 226492415 HT_.out ?_
       refine Z.pv 28 42 37 494927871 HT_.out ?_
       refine Z.pv 29 43 37 1031798783 HT_.out ?_
       refine Z.t15 23 37 37 1040187391 HT_.out HW_.out hHeld ?_
       refine Z.t15 25 39 37 1073741823 HT_.out HW_.out hHeld ?_
       refine Z.t15 30 44 37 2147483647 HT_.out HW_.out hHeld ?_
       refine Z.pv 31 45 37 4294967295 HT_.out ?_
       refine Z.t15 32 46 37 8589934591 HT_.out HW_.out hHeld ?_
       refine one_ (i := 33) (N := some 47) (Z.mb 37 17179869183) rfl rfl (one_of HT_.out (by kernel_rfl)) (by decide) (fun K hK => ?_)
       refine goes_ Try.func130 (by kernel_rfl) rfl #[.int .i64 (rd l0_1 ((rd_T134 l1 x6_1).f1))] (by rfl) rfl rfl Z.ar ?_
       with_reducible refine (spec_l1Heads.calls k1 (rd l0_1 ((rd_T134 l1 x6_1).f1)) t127 _ A12.out).mono ?_
       rintro e w' ⟨rfl, ⟨nd, rfl⟩⟩
       refine ⟨_, rfl, ?_⟩
       refine hK.out _ _ ⟨(blk_cell BK119.out 0).trans rfl, (blk_cell BK119.out 1).trans rfl, (Z.up HB.out hw121_0 :), (Z.up HB.out hw121_1 :), (Z.up HB.out hw121_2 :), (Z.up HB.out hw122_0 :), (Z.up HB.out hw122_1 :), (Z.up HB.out hw122_2 :), (Z.up HB.out hw124_0 :), (Z.up HB.out hw124_1 :), (Z.up HB.out hw124_2 :), (Z.up HB.out hw125_0 :), (Z.up HB.out hw125_1 :), (Z.up HB.out hw125_2 :), (Z.up HB.out hw126_0 :)⟩ (fun hHeld => ?_)
       clear hK K
       refine Z.nm ?_
       refine one_ (i := 34) (N := some 48) (Z.mb 37 34359738367) rfl rfl (one_of HT_.out (by kernel_rfl)) (by decide) (fun K hK => ?_)
       refine goes_ Try.func73 (by kernel_rfl) rfl #[.int .i64 ((rd_T134 l1 x6_1).f2), .int .i64 1, .int .i64 t127] (by rfl) rfl rfl Z.ar ?_
       with_reducible refine (spec_l1In.calls ((rd_T134 l1 x6_1).f2) 1 t127 t128 _ A13.out).mono ?_
       rintro e w' ⟨rfl, ⟨nd, rfl⟩⟩
       refine ⟨_, rfl, ?_⟩
       refine hK.out _ _ ⟨(blk_cell BK119.out 0).trans rfl, (blk_cell BK119.out 1).trans rfl, (Z.up HB.out hw121_0 :), (Z.up HB.out hw121_1 :), (Z.up HB.out hw121_2 :), (Z.up HB.out hw122_0 :), (Z.up HB.out hw122_1 :), (Z.up HB.out hw122_2 :), (Z.up HB.out hw124_0 :), (Z.up HB.out hw124_1 :), (Z.up HB.out hw124_2 :), (Z.up HB.out hw125_0 :), (Z.up HB.out hw125_1 :), (Z.up HB.out hw125_2 :), (Z.up HB.out hw126_0 :)⟩ (fun hHeld => ?_)
       clear hK K
       refine Z.nm ?_
       refine Z.pv 35 49 37 68719476735 HT_.out ?_
       refine Z.pv 36 13 37 137438953471 HT_.out ?_
       refine done_ (done_of HT_.out (by kernel_rfl)) ?_
       try go_wp2
       go_meet
       case rel => exact ⟨_, (t128), (by rfl), H', ⟨by have := HK1.out; omega⟩, ⟨by (with_reducible repeat (refine blk_drewN ?_ _)); exact BK119.out⟩, ⟨Z.bs HB.out GE119.out⟩⟩
      ·replace c9 := Bool.eq_false_iff.mpr c9
       subst c9
       rw [if_neg (show ¬ (false = true) by decide)] at H
       have H' := Aside0.mk H
       clear H
       try go_wp2
       replace BK119 := Aside0.mk (blk_drew BK119.out)
       replace HB := Aside0.mk (below_drew1 HB.out)
       have p121 : 0 ≤ (x6_1 : Int) := Z.od
       have q121 : x6_1 < (l1.length : Int) := Z.od
       obtain ⟨ad121, rfl, hx121_0, hx121_1, hx121_2⟩ := at_T134 HR1.out x6_1 p121 q121
       have hw121_2 := hx121_2
       have hw121_1 := hx121_1
       have hw121_0 := hx121_0
       replace hx121_0 := Z.up HB.out hx121_0
       replace hx121_1 := Z.up HB.out hx121_1
       replace hx121_2 := Z.up HB.out hx121_2
       replace p121 := eq_true p121
       replace q121 := eq_true q121
       have p122 : 0 ≤ (x6_1 : Int) := Z.od
       have q122 : x6_1 < (l1.length : Int) := Z.od
       obtain ⟨ad122, e122, hx122_0, hx122_1, hx122_2⟩ := at_T134 HR1.out x6_1 p122 q122
       have hw122_2 := hx122_2
       have hw122_1 := hx122_1
       have hw122_0 := hx122_0
       obtain rfl : ad121 = ad122 := (by injection e122)
       replace hx122_0 := Z.up HB.out hx122_0
       replace hx122_1 := Z.up HB.out hx122_1
       replace hx122_2 := Z.up HB.out hx122_2
       replace p122 := eq_true p122
       replace q122 := eq_true q122
       refine start_ (n := 37) (S := fun w' => w'.cell? ⟨gb119, 0, none⟩ = some (.int .i64 a0_0) ∧ w'.cell? ⟨gb119, 1, none⟩ = some (.slice A0_1 l0_1.length c0_1) ∧ w'.cell? (ad121.add ((x6_1).toNat * 3)) = some (.int .i64 ((rd_T134 l1 x6_1).f0)) ∧ w'.cell? ⟨(ad121.add ((x6_1).toNat * 3)).block, (ad121.add ((x6_1).toNat * 3)).off + 1, none⟩ = some (.int .i64 ((rd_T134 l1 x6_1).f1)) ∧ w'.cell? ⟨(ad121.add ((x6_1).toNat * 3)).block, (ad121.add ((x6_1).toNat * 3)).off + 2, none⟩ = some (.int .i64 ((rd_T134 l1 x6_1).f2)) ∧ w'.cell? (ad121.add ((x6_1).toNat * 3)) = some (.int .i64 ((rd_T134 l1 x6_1).f0)) ∧ w'.cell? ⟨(ad121.add ((x6_1).toNat * 3)).block, (ad121.add ((x6_1).toNat * 3)).off + 1, none⟩ = some (.int .i64 ((rd_T134 l1 x6_1).f1)) ∧ w'.cell? ⟨(ad121.add ((x6_1).toNat * 3)).block, (ad121.add ((x6_1).toNat * 3)).off + 2, none⟩ = some (.int .i64 ((rd_T134 l1 x6_1).f2))) (ds := []) #[false, false, false, false, false, false, false, false, false, false, false, false, false, false, false, false, false, false, false, false, false, false, false, false, false, false, false, false, false, false, false, false, false, false, false, false, false] (by kernel_rfl) rfl rfl ⟨(blk_cell BK119.out 0).trans rfl, (blk_cell BK119.out 1).trans rfl, (Z.up HB.out hw121_0 :), (Z.up HB.out hw121_1 :), (Z.up HB.out hw121_2 :), (Z.up HB.out hw122_0 :), (Z.up HB.out hw122_1 :), (Z.up HB.out hw122_2 :)⟩ (fun hHeld => ?_); refine with_tabW spec_TermOk.tab6 spec_TermOk.bits6 (fun HT_ HW_ => ?_)
       generalize wr.drew = w15 at BK119 HB hx121_0 hx121_1 hx121_2 hx122_0 hx122_1 hx122_2 hHeld ⊢
       refine Z.pv 0 14 37 1 HT_.out ?_
       refine Z.pv 1 15 37 3 HT_.out ?_
       refine Z.pv 2 16 37 7 HT_.out ?_
       refine Z.pv 3 17 37 15 HT_.out ?_
       refine Z.t8 4 18 37 31 HT_.out HW_.out hHeld ?_
       refine Z.pv 5 19 37 63 HT_.out ?_
       refine Z.pv 6 20 37 127 HT_.out ?_
       refine Z.pv 7 21 37 255 HT_.out ?_
       refine Z.pv 8 22 37 511 HT_.out ?_
       refine Z.pv 9 23 37 1023 HT_.out ?_
       refine Z.pv 10 24 37 2047 HT_.out ?_
       refine Z.pv 12 26 37 6143 HT_.out ?_
       refine Z.t8 11 25 37 8191 HT_.out HW_.out hHeld ?_
       refine Z.t8 13 27 37 16383 HT_.out HW_.out hHeld ?_
       refine Z.pv 14 28 37 32767 HT_.out ?_
       refine Z.pv 15 29 37 65535 HT_.out ?_
       refine one_ (i := 16) (N := some 30) (Z.mb 37 131071) rfl rfl (one_of HT_.out (by kernel_rfl)) (by decide) (fun K hK => ?_)
       refine goes_ Try.func73 (by kernel_rfl) rfl #[.int .i64 ((rd_T134 l1 x6_1).f1), .int .i64 0, .int .i64 (wrap64 ((l0_1.length : Int) - 1))] (by rfl) rfl rfl Z.ar ?_
       with_reducible refine (spec_l1In.calls ((rd_T134 l1 x6_1).f1) 0 (wrap64 ((l0_1.length : Int) - 1)) false _ A8.out).mono ?_
       rintro e w' ⟨rfl, ⟨nd, rfl⟩⟩
       refine ⟨_, rfl, ?_⟩
       refine hK.out _ _ ⟨(blk_cell BK119.out 0).trans rfl, (blk_cell BK119.out 1).trans rfl, (Z.up HB.out hw121_0 :), (Z.up HB.out hw121_1 :), (Z.up HB.out hw121_2 :), (Z.up HB.out hw122_0 :), (Z.up HB.out hw122_1 :), (Z.up HB.out hw122_2 :)⟩ (fun hHeld => ?_)
       clear hK K
       refine Z.nm ?_
       refine Z.pv 17 31 37 262143 HT_.out ?_
       refine Z.pv 18 32 37 524287 HT_.out ?_
       refine Z.pu 19 33 37 1048575 HT_.out ?_
       refine Z.pu 20 34 37 2097151 HT_.out ?_
       refine Z.pu 21 35 37 4194303 HT_.out ?_
       refine Z.pu 22 36 37 8388607 HT_.out ?_
       refine Z.pu 23 37 37 16777215 HT_.out ?_
       refine Z.pu 24 38 37 33554431 HT_.out ?_
       refine Z.pu 25 39 37 67108863 HT_.out ?_
       refine Z.pu 26 40 37 134217727 HT_.out ?_
       refine Z.pu 27 41 37 268435455 HT_.out ?_
       refine Z.pu 28 42 37 536870911 HT_.out ?_
       refine Z.pu 29 43 37 1073741823 HT_.out ?_
       refine Z.pu 30 44 37 2147483647 HT_.out ?_
       refine Z.pu 31 45 37 4294967295 HT_.out ?_
       refine Z.pu 32 46 37 8589934591 HT_.out ?_
       refine Z.pu 33 47 37 17179869183 HT_.out ?_
       refine Z.pu 34 48 37 34359738367 HT_.out ?_
       refine Z.pv 35 49 37 68719476735 HT_.out ?_
       refine Z.pv 36 13 37 137438953471 HT_.out ?_
       refine done_ (done_of HT_.out (by kernel_rfl)) ?_
       try go_wp2
       go_meet
       case rel => exact ⟨_, (false), (by rfl), H', ⟨by have := HK1.out; omega⟩, ⟨by (with_reducible repeat (refine blk_drewN ?_ _)); exact BK119.out⟩, ⟨Z.bs HB.out GE119.out⟩⟩
     ·rw [if_neg c7] at H
      have c7b0 : (((rd_T134 l1 x6_1).f0) == 0) = false := beq_eq_false_iff_ne.mpr c7
      have c7b1 : (((rd_T134 l1 x6_1).f0) != 0) = true := bne_iff_ne.mpr c7
      have H' := Aside0.mk H
      clear H
      try go_wp2
      replace BK119 := Aside0.mk (blk_drew BK119.out)
      replace HB := Aside0.mk (below_drew1 HB.out)
      have p121 : 0 ≤ (x6_1 : Int) := Z.od
      have q121 : x6_1 < (l1.length : Int) := Z.od
      obtain ⟨ad121, rfl, hx121_0, hx121_1, hx121_2⟩ := at_T134 HR1.out x6_1 p121 q121
      have hw121_2 := hx121_2
      have hw121_1 := hx121_1
      have hw121_0 := hx121_0
      replace hx121_0 := Z.up HB.out hx121_0
      replace hx121_1 := Z.up HB.out hx121_1
      replace hx121_2 := Z.up HB.out hx121_2
      replace p121 := eq_true p121
      replace q121 := eq_true q121
      refine start_ (n := 37) (S := fun w' => w'.cell? (ad121.add ((x6_1).toNat * 3)) = some (.int .i64 ((rd_T134 l1 x6_1).f0)) ∧ w'.cell? ⟨(ad121.add ((x6_1).toNat * 3)).block, (ad121.add ((x6_1).toNat * 3)).off + 1, none⟩ = some (.int .i64 ((rd_T134 l1 x6_1).f1)) ∧ w'.cell? ⟨(ad121.add ((x6_1).toNat * 3)).block, (ad121.add ((x6_1).toNat * 3)).off + 2, none⟩ = some (.int .i64 ((rd_T134 l1 x6_1).f2))) (ds := []) #[false, false, false, false, false, false, false, false, false, false, false, false, false, false, false, false, false, false, false, false, false, false, false, false, false, false, false, false, false, false, false, false, false, false, false, false, false] (by kernel_rfl) rfl rfl ⟨(Z.up HB.out hw121_0 :), (Z.up HB.out hw121_1 :), (Z.up HB.out hw121_2 :)⟩ (fun hHeld => ?_); refine with_tabW spec_TermOk.tab6 spec_TermOk.bits6 (fun HT_ HW_ => ?_)
      generalize wr.drew = w16 at BK119 HB hx121_0 hx121_1 hx121_2 hHeld ⊢
      refine Z.pv 0 14 37 1 HT_.out ?_
      refine Z.pv 1 15 37 3 HT_.out ?_
      refine Z.pv 2 16 37 7 HT_.out ?_
      refine Z.pv 3 17 37 15 HT_.out ?_
      refine Z.t3 4 18 37 31 HT_.out HW_.out hHeld ?_
      refine Z.pv 5 19 37 63 HT_.out ?_
      refine Z.pv 6 20 37 127 HT_.out ?_
      refine Z.pu 7 21 37 255 HT_.out ?_
      refine Z.pu 8 22 37 511 HT_.out ?_
      refine Z.pu 9 23 37 1023 HT_.out ?_
      refine Z.pu 10 24 37 2047 HT_.out ?_
      refine Z.pu 11 25 37 4095 HT_.out ?_
      refine Z.pu 12 26 37 8191 HT_.out ?_
      refine Z.pu 13 27 37 16383 HT_.out ?_
      refine Z.pu 14 28 37 32767 HT_.out ?_
      refine Z.pu 15 29 37 65535 HT_.out ?_
      refine Z.pu 16 30 37 131071 HT_.out ?_
      refine Z.pv 17 31 37 262143 HT_.out ?_
      refine Z.pv 18 32 37 524287 HT_.out ?_
      refine Z.pu 19 33 37 1048575 HT_.out ?_
      refine Z.pu 20 34 37 2097151 HT_.out ?_
      refine Z.pu 21 35 37 4194303 HT_.out ?_
      refine Z.pu 22 36 37 8388607 HT_.out ?_
      refine Z.pu 23 37 37 16777215 HT_.out ?_
      refine Z.pu 24 38 37 33554431 HT_.out ?_
      refine Z.pu 25 39 37 67108863 HT_.out ?_
      refine Z.pu 26 40 37 134217727 HT_.out ?_
      refine Z.pu 27 41 37 268435455 HT_.out ?_
      refine Z.pu 28 42 37 536870911 HT_.out ?_
      refine Z.pu 29 43 37 1073741823 HT_.out ?_
      refine Z.pu 30 44 37 2147483647 HT_.out ?_
      refine Z.pu 31 45 37 4294967295 HT_.out ?_
      refine Z.pu 32 46 37 8589934591 HT_.out ?_
      refine Z.pu 33 47 37 17179869183 HT_.out ?_
      refine Z.pu 34 48 37 34359738367 HT_.out ?_
      refine Z.pv 35 49 37 68719476735 HT_.out ?_
      refine Z.pv 36 13 37 137438953471 HT_.out ?_
      refine done_ (done_of HT_.out (by kernel_rfl)) ?_
      try go_wp2
      go_meet
      case rel => exact ⟨_, (false), (by rfl), H', ⟨by have := HK1.out; omega⟩, ⟨by (with_reducible skip); exact BK119.out⟩, ⟨Z.bs HB.out GE119.out⟩⟩
    case rest =>
     clear HC5
     obtain ⟨kq, x13_4, rfl, HA, HJ4, BK119, HB⟩ := hcut
     cases kq with
     | zero => exact absurd HA.out (by simp [spec_TermOk.j1])
     | succ kj4 =>
      have H := HA.out
      clear HA
      simp only [spec_TermOk.j1] at H
      by_cases c17 : x13_4 = true
      ·subst c17
       rw [if_pos rfl] at H
       have H' := Aside0.mk H
       clear H
       go_wp2
       go_roundg kj4
       case measure => have := HK1.out; have := HJ4.out; omega
       case rel => exact ⟨(wrap64 (x5_1 + 1)), (wrap64 (x6_1 + 1)), (by rfl), (by rfl), H', ⟨by have := HK1.out; have := HJ4.out; omega⟩, ⟨by (with_reducible skip); exact BK119.out⟩, ⟨Z.bs HB.out GE119.out⟩⟩
      ·replace c17 := Bool.eq_false_iff.mpr c17
       subst c17
       rw [if_neg (show ¬ (false = true) by decide)] at H
       obtain ⟨c18, H⟩ := Z.ifp H
       have c18b0 : decide (0 ≤ x6_1) = true := decide_eq_true c18
       clear c18
       obtain ⟨c19, H⟩ := Z.ifp H
       have c19b0 : decide (x6_1 < (l1.length : Int)) = true := decide_eq_true c19
       clear c19
       by_cases c20 : (((rd_T134 l1 x6_1).f0) == 1 && (((rd_T134 l1 x6_1).f1) == 0 && (((rd_T134 l1 x6_1).f2) == 0))) = true
       ·rw [if_pos c20] at H
        have c20b0 : (((rd_T134 l1 x6_1).f0) == 1 && (((rd_T134 l1 x6_1).f1) == 0 && (((rd_T134 l1 x6_1).f2) == 0))) = true := c20
        (try (have c20b1 : decide (((rd_T134 l1 x6_1).f0) = 1 && (((rd_T134 l1 x6_1).f1) == 0 && (((rd_T134 l1 x6_1).f2) == 0))) = true := by simpa using c20))
        (try (have c20b2 : (((rd_T134 l1 x6_1).f0) == 1 && (((rd_T134 l1 x6_1).f1) == 0 && (((rd_T134 l1 x6_1).f2) == 0))) = true := by simpa using c20))
        clear c20
        by_cases c21 : x5_1 ≥ 2
        ·rw [if_pos c21] at H
         have c21b0 : decide (2 ≤ x5_1) = true := decide_eq_true c21
         clear c21
         have H' := Aside0.mk H
         clear H
         have p129 : 0 ≤ (x6_1 : Int) := Z.od
         have q129 : x6_1 < (l1.length : Int) := Z.od
         obtain ⟨ad129, rfl, hx129_0, hx129_1, hx129_2⟩ := at_T134 HR1.out x6_1 p129 q129
         replace hx129_0 := Z.up HB.out hx129_0
         replace hx129_1 := Z.up HB.out hx129_1
         replace hx129_2 := Z.up HB.out hx129_2
         replace p129 := eq_true p129
         replace q129 := eq_true q129
         go_wp2
         go_roundg kj4
         case measure => have := HK1.out; have := HJ4.out; omega
         case rel => exact ⟨(wrap64 (x5_1 - 1)), (wrap64 (x6_1 + 1)), (by rfl), (by rfl), H', ⟨by have := HK1.out; have := HJ4.out; omega⟩, ⟨by (with_reducible skip); exact BK119.out⟩, ⟨Z.bs HB.out GE119.out⟩⟩
        ·rw [if_neg c21] at H
         have c21b0 : decide (2 ≤ x5_1) = false := decide_eq_false c21
         clear c21
         obtain rfl := Option.some.inj H
         have p129 : 0 ≤ (x6_1 : Int) := Z.od
         have q129 : x6_1 < (l1.length : Int) := Z.od
         obtain ⟨ad129, rfl, hx129_0, hx129_1, hx129_2⟩ := at_T134 HR1.out x6_1 p129 q129
         replace hx129_0 := Z.up HB.out hx129_0
         replace hx129_1 := Z.up HB.out hx129_1
         replace hx129_2 := Z.up HB.out hx129_2
         replace p129 := eq_true p129
         replace q129 := eq_true q129
         go_wp2
         go_ret
         exact ⟨by rfl, Z.bs HB.out GE119.out⟩
       ·rw [if_neg c20] at H
        have c20b0 : (((rd_T134 l1 x6_1).f0) == 1 && (((rd_T134 l1 x6_1).f1) == 0 && (((rd_T134 l1 x6_1).f2) == 0))) = false := by simpa using c20
        (try (have c20b1 : decide (((rd_T134 l1 x6_1).f0) = 1 && (((rd_T134 l1 x6_1).f1) == 0 && (((rd_T134 l1 x6_1).f2) == 0))) = false := by simpa using c20))
        (try (have c20b2 : (((rd_T134 l1 x6_1).f0) == 1 && (((rd_T134 l1 x6_1).f1) == 0 && (((rd_T134 l1 x6_1).f2) == 0))) = false := by simpa using c20))
        (try (have c20b3 : ¬ (((rd_T134 l1 x6_1).f0) = 1 && (((rd_T134 l1 x6_1).f1) == 0 && (((rd_T134 l1 x6_1).f2) == 0))) := by simpa using c20))
        clear c20
        by_cases c22 : (((rd_T134 l1 x6_1).f0) == 2 && (((rd_T134 l1 x6_1).f1) == 0 && (((rd_T134 l1 x6_1).f2) == 0))) = true
        ·rw [if_pos c22] at H
         have c22b0 : (((rd_T134 l1 x6_1).f0) == 2 && (((rd_T134 l1 x6_1).f1) == 0 && (((rd_T134 l1 x6_1).f2) == 0))) = true := c22
         (try (have c22b1 : decide (((rd_T134 l1 x6_1).f0) = 2 && (((rd_T134 l1 x6_1).f1) == 0 && (((rd_T134 l1 x6_1).f2) == 0))) = true := by simpa using c22))
         (try (have c22b2 : (((rd_T134 l1 x6_1).f0) == 2 && (((rd_T134 l1 x6_1).f1) == 0 && (((rd_T134 l1 x6_1).f2) == 0))) = true := by simpa using c22))
         clear c22
         by_cases c23 : x5_1 ≥ 2
         ·rw [if_pos c23] at H
          have c23b0 : decide (2 ≤ x5_1) = true := decide_eq_true c23
          clear c23
          have H' := Aside0.mk H
          clear H
          have p129 : 0 ≤ (x6_1 : Int) := Z.od
          have q129 : x6_1 < (l1.length : Int) := Z.od
          obtain ⟨ad129, rfl, hx129_0, hx129_1, hx129_2⟩ := at_T134 HR1.out x6_1 p129 q129
          replace hx129_0 := Z.up HB.out hx129_0
          replace hx129_1 := Z.up HB.out hx129_1
          replace hx129_2 := Z.up HB.out hx129_2
          replace p129 := eq_true p129
          replace q129 := eq_true q129
          have p130 : 0 ≤ (x6_1 : Int) := Z.od
          have q130 : x6_1 < (l1.length : Int) := Z.od
          obtain ⟨ad130, e130, hx130_0, hx130_1, hx130_2⟩ := at_T134 HR1.out x6_1 p130 q130
          obtain rfl : ad129 = ad130 := (by injection e130)
          replace hx130_0 := Z.up HB.out hx130_0
          replace hx130_1 := Z.up HB.out hx130_1
          replace hx130_2 := Z.up HB.out hx130_2
          replace p130 := eq_true p130
          replace q130 := eq_true q130
          go_wp2
          go_roundg kj4
          case measure => have := HK1.out; have := HJ4.out; omega
          case rel => exact ⟨(wrap64 (x5_1 - 1)), (wrap64 (x6_1 + 1)), (by rfl), (by rfl), H', ⟨by have := HK1.out; have := HJ4.out; omega⟩, ⟨by (with_reducible skip); exact BK119.out⟩, ⟨Z.bs HB.out GE119.out⟩⟩
         ·rw [if_neg c23] at H
          have c23b0 : decide (2 ≤ x5_1) = false := decide_eq_false c23
          clear c23
          obtain rfl := Option.some.inj H
          have p129 : 0 ≤ (x6_1 : Int) := Z.od
          have q129 : x6_1 < (l1.length : Int) := Z.od
          obtain ⟨ad129, rfl, hx129_0, hx129_1, hx129_2⟩ := at_T134 HR1.out x6_1 p129 q129
          replace hx129_0 := Z.up HB.out hx129_0
          replace hx129_1 := Z.up HB.out hx129_1
          replace hx129_2 := Z.up HB.out hx129_2
          replace p129 := eq_true p129
          replace q129 := eq_true q129
          have p130 : 0 ≤ (x6_1 : Int) := Z.od
          have q130 : x6_1 < (l1.length : Int) := Z.od
          obtain ⟨ad130, e130, hx130_0, hx130_1, hx130_2⟩ := at_T134 HR1.out x6_1 p130 q130
          obtain rfl : ad129 = ad130 := (by injection e130)
          replace hx130_0 := Z.up HB.out hx130_0
          replace hx130_1 := Z.up HB.out hx130_1
          replace hx130_2 := Z.up HB.out hx130_2
          replace p130 := eq_true p130
          replace q130 := eq_true q130
          go_wp2
          go_ret
          exact ⟨by rfl, Z.bs HB.out GE119.out⟩
        ·rw [if_neg c22] at H
         have c22b0 : (((rd_T134 l1 x6_1).f0) == 2 && (((rd_T134 l1 x6_1).f1) == 0 && (((rd_T134 l1 x6_1).f2) == 0))) = false := by simpa using c22
         (try (have c22b1 : decide (((rd_T134 l1 x6_1).f0) = 2 && (((rd_T134 l1 x6_1).f1) == 0 && (((rd_T134 l1 x6_1).f2) == 0))) = false := by simpa using c22))
         (try (have c22b2 : (((rd_T134 l1 x6_1).f0) == 2 && (((rd_T134 l1 x6_1).f1) == 0 && (((rd_T134 l1 x6_1).f2) == 0))) = false := by simpa using c22))
         (try (have c22b3 : ¬ (((rd_T134 l1 x6_1).f0) = 2 && (((rd_T134 l1 x6_1).f1) == 0 && (((rd_T134 l1 x6_1).f2) == 0))) := by simpa using c22))
         clear c22
         obtain rfl := Option.some.inj H
         have p129 : 0 ≤ (x6_1 : Int) := Z.od
         have q129 : x6_1 < (l1.length : Int) := Z.od
         obtain ⟨ad129, rfl, hx129_0, hx129_1, hx129_2⟩ := at_T134 HR1.out x6_1 p129 q129
         replace hx129_0 := Z.up HB.out hx129_0
         replace hx129_1 := Z.up HB.out hx129_1
         replace hx129_2 := Z.up HB.out hx129_2
         replace p129 := eq_true p129
         replace q129 := eq_true q129
         have p130 : 0 ≤ (x6_1 : Int) := Z.od
         have q130 : x6_1 < (l1.length : Int) := Z.od
         obtain ⟨ad130, e130, hx130_0, hx130_1, hx130_2⟩ := at_T134 HR1.out x6_1 p130 q130
         obtain rfl : ad129 = ad130 := (by injection e130)
         replace hx130_0 := Z.up HB.out hx130_0
         replace hx130_1 := Z.up HB.out hx130_1
         replace hx130_2 := Z.up HB.out hx130_2
         replace p130 := eq_true p130
         replace q130 := eq_true q130
         go_wp2
         go_ret
         exact ⟨by rfl, Z.bs HB.out GE119.out⟩
   ·rw [if_neg c4] at H
    have c4b0 := decide_eq_false c4
    clear c4
    replace H := Option.bind_eq_some_iff.mp H
    obtain ⟨t120, A240, H⟩ := H
    have A24 := Aside0.mk A240
    clear A240
    by_cases c25 : t120 = true
    ·subst c25
     rw [if_pos rfl] at H
     by_cases c26 : x5_1 = 1
     ·rw [if_pos c26] at H
      have c26b0 : (x5_1 == 1) = true := beq_iff_eq.mpr c26
      have c26b1 : (x5_1 != 1) = false := bne_eq_false_iff_eq.mpr c26
      clear c26
      obtain rfl := Option.some.inj H
      have hcz27 := Z.c2 BK119.out
      go_wp2_with (((with_reducible refine gate_callee (f := 109) rfl ?_); refine goesL_ (some 74) rfl rfl Try.func109 (by kernel_rfl) rfl #[.agg #[.int .i64 a0_0, .slice A0_1 l0_1.length c0_1]] rfl Z.ar ?_; (with_reducible refine (spec_HouseOk.calls k1 a0_0 _ _ l0_1 true _ ?q1 ?q2 A24.out).mono ?_); (case q1 => exact Z.cc HR0_1 HB); (case q2 => exact HC0_1.out); rintro e w28 ⟨rfl, hb⟩; refine ⟨_, rfl, ?_⟩; replace BK119 := Z.bb BK119 hb; replace HB := Z.st (Z.bs HB.out GE119.out) hb; (try clear hb)))
      go_ret
      exact ⟨by rfl, Z.bs HB.out GE119.out⟩
     ·rw [if_neg c26] at H
      have c26b0 : (x5_1 == 1) = false := beq_eq_false_iff_ne.mpr c26
      have c26b1 : (x5_1 != 1) = true := bne_iff_ne.mpr c26
      obtain rfl := Option.some.inj H
      have hcz29 := Z.c2 BK119.out
      go_wp2_with (((with_reducible refine gate_callee (f := 109) rfl ?_); refine goesL_ (some 74) rfl rfl Try.func109 (by kernel_rfl) rfl #[.agg #[.int .i64 a0_0, .slice A0_1 l0_1.length c0_1]] rfl Z.ar ?_; (with_reducible refine (spec_HouseOk.calls k1 a0_0 _ _ l0_1 true _ ?q1 ?q2 A24.out).mono ?_); (case q1 => exact Z.cc HR0_1 HB); (case q2 => exact HC0_1.out); rintro e w30 ⟨rfl, hb⟩; refine ⟨_, rfl, ?_⟩; replace BK119 := Z.bb BK119 hb; replace HB := Z.st (Z.bs HB.out GE119.out) hb; (try clear hb)))
      go_ret
      exact ⟨by rfl, Z.bs HB.out GE119.out⟩
    ·replace c25 := Bool.eq_false_iff.mpr c25
     subst c25
     rw [if_neg (show ¬ (false = true) by decide)] at H
     obtain rfl := Option.some.inj H
     have hcz31 := Z.c2 BK119.out
     go_wp2_with (((with_reducible refine gate_callee (f := 109) rfl ?_); refine goesL_ (some 74) rfl rfl Try.func109 (by kernel_rfl) rfl #[.agg #[.int .i64 a0_0, .slice A0_1 l0_1.length c0_1]] rfl Z.ar ?_; (with_reducible refine (spec_HouseOk.calls k1 a0_0 _ _ l0_1 false _ ?q1 ?q2 A24.out).mono ?_); (case q1 => exact Z.cc HR0_1 HB); (case q2 => exact HC0_1.out); rintro e w32 ⟨rfl, hb⟩; refine ⟨_, rfl, ?_⟩; replace BK119 := Z.bb BK119 hb; replace HB := Z.st (Z.bs HB.out GE119.out) hb; (try clear hb)))
     go_ret
     exact ⟨by rfl, Z.bs HB.out GE119.out⟩

end Go.Proofs.Ytcafckapdgaogaa.PAll
